/- The plain law of FnExactReadDate: what the program computes is what the reference computes, for every input (no further condition). -/
import Derived.Test.YtghglglbajnncaaDoorMFnExactReadDatea13
namespace Go.Proofs.YtghglglbajnncaaDoor.Pure
open Go.RowKit Go.Proofs.YtghglglbajnncaaDoor.PFnExactReadDate Go.Proofs.YtghglglbajnncaaDoorW.PrintWords Go.Proofs.YtghglglbajnncaaDoorW.PrintLast

set_option linter.unusedVariables false
set_option linter.unusedSimpArgs false
/-! plain facts on whole numbers -/
theorem wrap_id {x : Int} (h1 : -9223372036854775808 ≤ x) (h2 : x ≤ 9223372036854775807) : wrap64 x = x := by
  unfold wrap64; omega
theorem td_pos {a b : Int} (h : 0 ≤ a) : a.tdiv b = a / b := Int.tdiv_eq_ediv_of_nonneg h
theorem td_neg {a b : Int} (h : a ≤ 0) : a.tdiv b = -((-a) / b) := by
  rw [← Int.tdiv_eq_ediv_of_nonneg (by omega : 0 ≤ -a), Int.neg_tdiv]; omega
theorem tm_pos {a b : Int} (h : 0 ≤ a) : a.tmod b = a % b := Int.tmod_eq_emod_of_nonneg h
theorem tm_neg {a b : Int} (h : a ≤ 0) : a.tmod b = -((-a) % b) := by
  rw [← Int.tmod_eq_emod_of_nonneg (by omega : 0 ≤ -a), Int.neg_tmod]; omega
theorem tm_zero (a b : Int) : a.tmod b = 0 ↔ a % b = 0 := by
  rw [← Int.dvd_iff_tmod_eq_zero, ← Int.dvd_iff_emod_eq_zero]
theorem ediv_is {a b q r : Int} (hb : 0 < b) (h : a = b * q + r) (h0 : 0 ≤ r) (h1 : r < b) : a / b = q := by
  rw [h, Int.add_comm, Int.add_mul_ediv_left _ _ (by omega), Int.ediv_eq_zero_of_lt h0 h1]; omega
theorem ediv_neg_of {a b : Int} (hb : 0 < b) (h : a.tmod b = 0) : a.tdiv b = a / b := by
  have e := Int.mul_tdiv_add_tmod a b
  rw [h] at e
  exact (ediv_is hb (q := a.tdiv b) (r := 0) (by omega) (by omega) hb).symm
theorem ediv_floor {a b : Int} (hb : 0 < b) (ha : a < 0) (h : a.tmod b ≠ 0) : a.tdiv b - 1 = a / b := by
  have e := Int.mul_tdiv_add_tmod a b
  have hm := tm_neg (a := a) (b := b) (by omega)
  have h0 := Int.emod_nonneg (-a) (by omega : b ≠ 0)
  have h1 := Int.emod_lt_of_pos (-a) hb
  refine (ediv_is hb (q := a.tdiv b - 1) (r := a.tmod b + b) ?_ (by omega) (by omega)).symm
  rw [Int.mul_sub]; omega
/-- The floor, as both programs reckon it. -/
theorem floor_is {a b : Int} (hb : 0 < b) (h1 : -4611686018427387904 ≤ a) (h2 : a ≤ 4611686018427387904) :
    (if b = 0 then (none) else (if (Int.tmod a b) = 0 then (some (wrap64 (Int.tdiv a b))) else (if ((decide (a < 0)) != (decide (b < 0))) = true then (some (wrap64 ((wrap64 (Int.tdiv a b)) - 1))) else (some (wrap64 (Int.tdiv a b)))))) = some (a / b) := by
  have hle : a / b ≤ 4611686018427387904 := by
    by_cases h : 0 ≤ a
    · exact Int.le_trans (Int.ediv_le_self b h) h2
    · have := Int.ediv_neg_of_neg_of_pos (by omega : a < 0) hb; omega
  have hge : -4611686018427387904 ≤ a / b := by
    by_cases h : 0 ≤ a
    · have := Int.ediv_nonneg h (by omega : 0 ≤ b); omega
    · exact Int.le_ediv_of_mul_le hb (by have : -4611686018427387904 * b ≤ -4611686018427387904 * 1 := by omega
                                         omega)
  rw [if_neg (by omega : ¬ b = 0)]
  by_cases hm : Int.tmod a b = 0
  · rw [if_pos hm, ediv_neg_of hb hm, wrap_id (by omega) (by omega)]
  · rw [if_neg hm]
    by_cases ha : a < 0
    · have e := ediv_floor hb ha hm
      rw [if_pos (by simp [ha]; omega), wrap_id (x := Int.tdiv a b) (by omega) (by omega), e, wrap_id (by omega) (by omega)]
    · rw [if_neg (by simp [ha]; omega), td_pos (by omega), wrap_id (by omega) (by omega)]

/-! plain facts on texts as lists of numbers -/
theorem u8_back (b : UInt8) : UInt8.ofNat ((b.toNat : Int)).toNat = b := by simp
theorem strOfNums_bytesOf (s : ByteArray) : strOfNums (bytesOf s) = s := by
  cases s with | mk d =>
  unfold strOfNums bytesOf
  congr 1
  rw [List.map_map]
  have : ((fun n : Int => UInt8.ofNat n.toNat) ∘ fun b : UInt8 => (b.toNat : Int)) = id := by funext b; exact u8_back b
  rw [this, List.map_id]
def okL (xs : List Int) : Prop := ∀ x ∈ xs, 0 ≤ x ∧ x < 256
theorem bytesOf_strOfNums (xs : List Int) (h : okL xs) : bytesOf (strOfNums xs) = xs := by
  unfold bytesOf
  rw [strOfNums_data, List.map_map]
  conv => rhs; rw [← List.map_id xs]
  refine List.map_congr_left fun x hx => ?_
  have := h x hx
  simp only [Function.comp, UInt8.toNat_ofNat', id]
  omega
theorem okL_bytesOf (s : ByteArray) : okL (bytesOf s) := by
  intro x hx
  obtain ⟨b, _, rfl⟩ := List.mem_map.1 hx
  have := b.toNat_lt
  omega
theorem strOfNums_app (xs ys : List Int) : strOfNums xs ++ strOfNums ys = strOfNums (xs ++ ys) := by
  apply ByteArray.ext
  rw [ByteArray.data_append]
  simp [strOfNums]
theorem bytesOf_inj {s t : ByteArray} (h : bytesOf s = bytesOf t) : s = t := by
  rw [← strOfNums_bytesOf s, ← strOfNums_bytesOf t, h]
theorem toList_iff (s t : ByteArray) : s.toList = t.toList ↔ bytesOf s = bytesOf t := by
  rw [ByteArray.toList_eq, ByteArray.toList_eq]
  constructor
  · intro h; unfold bytesOf; rw [h]
  · intro h; rw [bytesOf_inj h]
theorem bt_of (s : ByteArray) (L : List Int) (h : bytesOf s = L) (i : Int) : bt s i = rd L i := by
  rw [← h, rd_bytesOf]
theorem size_of' (s : ByteArray) (L : List Int) (h : bytesOf s = L) : s.size = L.length := by
  rw [← h, bytesOf_length]

/-- A number's decimal text. -/
def txt (n : Int) : ByteArray := ⟨(Lib.itoa n).toArray⟩
theorem l1Num_is (n : Int) (h1 : -1000000000000000000 < n) (h2 : n < 1000000000000000000) : spec_l1Num.f n = some (txt n) := by unfold spec_l1Num.f; rw [if_pos ⟨h1, h2⟩]; rfl
theorem itoa_is (n : Int) (h1 : -1000000000000000000 < n) (h2 : n < 1000000000000000000) : strconv_Itoa.f n = some (txt n) := by unfold strconv_Itoa.f; rw [if_pos ⟨by omega, by omega⟩]; rfl
theorem txt_le (n : Int) (h1 : -1000000000000000000 < n) (h2 : n < 1000000000000000000) : (txt n).size ≤ 21 := by
  have := Lib.itoa_length_le n (by omega) (by omega)
  show (Lib.itoa n).toArray.size ≤ 21
  simpa using this

theorem txt_neg (d : Int) (h : d < 0) : txt d = (⟨#[45]⟩ : ByteArray) ++ txt (-d) := by
  have e1 : Lib.itoa d = 45 :: Lib.decDigits d.natAbs := by unfold Lib.itoa; rw [if_pos h]
  have e2 : Lib.itoa (-d) = Lib.decDigits d.natAbs := by unfold Lib.itoa; rw [if_neg (by omega)]; congr 1; omega
  apply ByteArray.ext
  show (Lib.itoa d).toArray = _
  rw [e1, ByteArray.data_append]
  show _ = #[45] ++ (Lib.itoa (-d)).toArray
  rw [e2]; simp
theorem txt_size (u : Nat) : (txt (u : Int)).size = Lib.nDigits u := by
  have e : Lib.itoa (u : Int) = Lib.decDigits u := by unfold Lib.itoa; rw [if_neg (by omega)]; simp
  show (Lib.itoa (u : Int)).toArray.size = _
  rw [e]; simp [Lib.decDigits_length]
theorem txt_pos (n : Int) (h1 : -1000000000000000000 < n) (h2 : n < 1000000000000000000) : 1 ≤ (txt n).size := by
  rcases Int.lt_or_le n 0 with h | h
  · rw [txt_neg n h, ByteArray.size_append]; show 1 ≤ 1 + _; omega
  · obtain ⟨u, rfl⟩ : ∃ u : Nat, n = u := ⟨n.toNat, by omega⟩
    rw [txt_size]; exact Lib.nDigits_pos u
theorem ba_assoc (a b c : ByteArray) : a ++ b ++ c = a ++ (b ++ c) := ByteArray.append_assoc
theorem ba_ext {a b : ByteArray} (h : a.data.toList = b.data.toList) : a = b := ByteArray.ext (Array.toList_inj.1 h)

/-- So many noughts. -/
def zeros (q : Nat) : ByteArray := strOfNums (List.replicate q 48)
theorem zeros_size (q : Nat) : (zeros q).size = q := by unfold zeros strOfNums; show ((List.replicate q (48 : Int)).map _).toArray.size = q; simp
theorem zeros_add (a b : Nat) : zeros (a + b) = zeros a ++ zeros b := by
  apply ba_ext
  unfold zeros strOfNums
  rw [ByteArray.data_append]
  simp [List.replicate_append_replicate]
theorem nought_l0 (q : Nat) (hq : q ≤ 100000) : ∀ (d k i : Nat), i + d = q → d < k → spec_l1Nought.l0 k (List.replicate i 48 ++ List.replicate d 0) (q : Int) (i : Int) = some (zeros q) := by
  intro d
  induction d with
  | zero =>
    intro k i h hk
    obtain ⟨k, rfl⟩ : ∃ m, k = m + 1 := ⟨k - 1, by omega⟩
    obtain rfl : i = q := by omega
    simp only [spec_l1Nought.l0]
    rw [if_neg (by omega)]
    simp [zeros]
  | succ d ih =>
    intro k i h hk
    obtain ⟨k, rfl⟩ : ∃ m, k = m + 1 := ⟨k - 1, by omega⟩
    simp only [spec_l1Nought.l0]
    rw [if_pos (by omega), if_pos (by omega), if_pos (by simp; omega), wrap_id (by omega) (by omega)]
    have e : (List.replicate i (48 : Int) ++ List.replicate (d + 1) 0).set ((i : Int)).toNat 48 = List.replicate (i + 1) 48 ++ List.replicate d 0 := by
      rw [Int.toNat_natCast, List.set_append, if_neg (by simp)]
      simp only [List.length_replicate, Nat.sub_self, List.replicate_succ, List.set_cons_zero]
      rw [show (48 : Int) :: List.replicate i 48 = List.replicate i 48 ++ [48] from by rw [← List.replicate_succ, List.replicate_succ'], List.append_assoc]; rfl
    rw [e, show ((i : Int) + 1) = ((i + 1 : Nat) : Int) from by omega]
    exact ih k (i + 1) (by omega) (by omega)
theorem nought_is (q : Nat) (hq : q ≤ 100000) (k : Nat) (hk : q < k) : spec_l1Nought.f k (q : Int) = some (zeros q) := by
  unfold spec_l1Nought.f
  rw [if_pos (by omega), Int.toNat_natCast, if_pos (by omega)]
  simp only [Option.bind_some]
  have := nought_l0 q hq q k 0 (by omega) hk
  simpa using this

/-- A number in at least m digits. -/
def pad (n : Int) (m : Nat) : ByteArray := zeros (m - (txt n).size) ++ txt n
theorem zeros_none : zeros 0 = ByteArray.empty := rfl
theorem e_app (x : ByteArray) : (⟨#[]⟩ : ByteArray) ++ x = x := ByteArray.empty_append
theorem specDigits_is (n : Int) (m : Nat) (h1 : -1000000000 < n) (h2 : n < 1000000000) (hm : m ≤ 10) (k : Nat) (hk : 20 ≤ k) : spec_l2Digits.f k n m = some (pad n m) := by
  have lt := txt_le n (by omega) (by omega)
  unfold spec_l2Digits.f pad
  rw [l1Num_is n (by omega) (by omega)]
  simp only [Option.bind_some]
  by_cases h : (txt n).size < m
  · rw [if_pos (by omega), wrap_id (by omega) (by omega), show ((m : Int) - ((txt n).size : Int)) = ((m - (txt n).size : Nat) : Int) from by omega, nought_is _ (by omega) k (by omega)]
    simp only [Option.bind_some]
    rw [if_pos (by rw [zeros_size]; omega)]
  · rw [if_neg (by omega), show m - (txt n).size = 0 from by omega, zeros_none, ByteArray.empty_append]
theorem year_l0 : ∀ (d k : Nat) (x y : ByteArray), 4 - y.size = d → d < k → x.size ≤ 10 → y.size ≤ 30 → impl_yearText.l0 k x y = some (x ++ (zeros d ++ y)) := by
  intro d
  induction d with
  | zero =>
    intro k x y h hk hx hy
    obtain ⟨k, rfl⟩ : ∃ m, k = m + 1 := ⟨k - 1, by omega⟩
    simp only [impl_yearText.l0]
    rw [if_neg (by omega), if_pos (by omega), zeros_none, ByteArray.empty_append]
  | succ d ih =>
    intro k x y h hk hx hy
    obtain ⟨k, rfl⟩ : ∃ m, k = m + 1 := ⟨k - 1, by omega⟩
    have z1 : (⟨#[48]⟩ : ByteArray).size = 1 := rfl
    simp only [impl_yearText.l0]
    rw [if_pos (by omega), if_pos (by omega), ih k x _ (by rw [ByteArray.size_append, z1]; omega) (by omega) hx (by rw [ByteArray.size_append, z1]; omega)]
    rw [zeros_add d 1, ba_assoc]; rfl
theorem pad_le (n : Int) (m : Nat) (h1 : -1000000000 < n) (h2 : n < 1000000000) (hm : m ≤ 10) : (pad n m).size ≤ 40 := by
  have lt := txt_le n (by omega) (by omega)
  unfold pad; rw [ByteArray.size_append, zeros_size]; omega
theorem year_is (y : Int) (h1 : -5000 ≤ y) (h2 : y ≤ 9999) (k : Nat) (hk : 10 ≤ k) : impl_yearText.f k y = some (if y < 0 then (⟨#[45]⟩ : ByteArray) ++ pad (-y) 4 else pad y 4) := by
  obtain ⟨k, rfl⟩ : ∃ m, k = m + 1 := ⟨k - 1, by omega⟩
  unfold impl_yearText.f pad
  by_cases h : y < 0
  · have lt := txt_le (-y) (by omega) (by omega)
    rw [if_pos h, if_pos h, wrap_id (by omega) (by omega)]
    simp only [impl_yearText.j0]
    rw [itoa_is (-y) (by omega) (by omega)]
    simp only [Option.bind_some]
    rw [year_l0 _ k _ _ rfl (by omega) (by decide) (by omega)]
  · have lt := txt_le y (by omega) (by omega)
    rw [if_neg h, if_neg h]
    simp only [impl_yearText.j0]
    rw [itoa_is y (by omega) (by omega)]
    simp only [Option.bind_some]
    rw [year_l0 _ k _ _ rfl (by omega) (by decide) (by omega), e_app]
theorem two_is (n : Int) (h1 : 1 ≤ n) (h2 : n ≤ 99) : impl_twoDigits.f n = some (pad n 2) := by
  obtain ⟨u, rfl⟩ : ∃ u : Nat, n = u := ⟨n.toNat, by omega⟩
  have hs := txt_size u
  unfold impl_twoDigits.f pad
  rw [itoa_is (u : Int) (by omega) (by omega)]
  simp only [Option.bind_some]
  by_cases h : (u : Int) < 10
  · rw [Lib.nDigits_small (by omega)] at hs
    rw [if_pos h, if_pos (by omega), hs]; rfl
  · rw [Lib.nDigits_big (by omega), Lib.nDigits_small (by omega)] at hs
    rw [if_neg h, hs]
    show _ = some (zeros 0 ++ _)
    rw [zeros_none, ByteArray.empty_append]
def dateB (y m d : Int) : Bool := decide (-5000 ≤ y ∧ y ≤ 9999 ∧ 1 ≤ m ∧ m ≤ 12 ∧ 1 ≤ d ∧ d ≤ 31)
/-- A date's text. -/
def dateTxt (y m d : Int) : ByteArray := if dateB y m d then (if y < 0 then (⟨#[45]⟩ : ByteArray) ++ pad (-y) 4 else pad y 4) ++ (⟨#[45]⟩ : ByteArray) ++ pad m 2 ++ (⟨#[45]⟩ : ByteArray) ++ pad d 2 else ⟨#[]⟩
theorem implDateText_is (y m d : Int) (k : Nat) (hk : 30 ≤ k) : impl_DateText.f k y m d = some (dateTxt y m d) := by
  obtain ⟨k, rfl⟩ : ∃ m, k = m + 1 := ⟨k - 1, by omega⟩
  have z1 : (⟨#[45]⟩ : ByteArray).size = 1 := rfl
  unfold impl_DateText.f dateTxt dateB
  by_cases c1 : y < -5000
  · rw [if_pos c1, decide_eq_false (p := -5000 ≤ y ∧ y ≤ 9999 ∧ 1 ≤ m ∧ m ≤ 12 ∧ 1 ≤ d ∧ d ≤ 31) (by omega)]; simp [impl_DateText.j0]
  rw [if_neg c1]
  by_cases c2 : y > 9999
  · rw [if_pos c2, decide_eq_false (p := -5000 ≤ y ∧ y ≤ 9999 ∧ 1 ≤ m ∧ m ≤ 12 ∧ 1 ≤ d ∧ d ≤ 31) (by omega)]; simp [impl_DateText.j0]
  rw [if_neg c2]
  by_cases c3 : m < 1
  · rw [if_pos c3, decide_eq_false (p := -5000 ≤ y ∧ y ≤ 9999 ∧ 1 ≤ m ∧ m ≤ 12 ∧ 1 ≤ d ∧ d ≤ 31) (by omega)]; simp [impl_DateText.j0]
  rw [if_neg c3]
  by_cases c4 : m > 12
  · rw [if_pos c4, decide_eq_false (p := -5000 ≤ y ∧ y ≤ 9999 ∧ 1 ≤ m ∧ m ≤ 12 ∧ 1 ≤ d ∧ d ≤ 31) (by omega)]; simp [impl_DateText.j0]
  rw [if_neg c4]
  by_cases c5 : d < 1
  · rw [if_pos c5, decide_eq_false (p := -5000 ≤ y ∧ y ≤ 9999 ∧ 1 ≤ m ∧ m ≤ 12 ∧ 1 ≤ d ∧ d ≤ 31) (by omega)]; simp [impl_DateText.j0]
  rw [if_neg c5]
  by_cases c6 : d > 31
  · rw [decide_eq_true c6, decide_eq_false (p := -5000 ≤ y ∧ y ≤ 9999 ∧ 1 ≤ m ∧ m ≤ 12 ∧ 1 ≤ d ∧ d ≤ 31) (by omega)]; simp [impl_DateText.j0]
  rw [decide_eq_false c6, decide_eq_true (p := -5000 ≤ y ∧ y ≤ 9999 ∧ 1 ≤ m ∧ m ≤ 12 ∧ 1 ≤ d ∧ d ≤ 31) (by omega)]
  have p1 := pad_le m 2 (by omega) (by omega) (by omega)
  have p2 := pad_le d 2 (by omega) (by omega) (by omega)
  have p3 := pad_le y 4 (by omega) (by omega) (by omega)
  have p4 := pad_le (-y) 4 (by omega) (by omega) (by omega)
  simp only [impl_DateText.j0, Bool.false_eq_true, if_false, if_true]
  rw [year_is y (by omega) (by omega) k (by omega), two_is m (by omega) (by omega), two_is d (by omega) (by omega)]
  by_cases hy : y < 0
  · simp only [hy, if_true, Option.bind_some, ByteArray.size_append, z1]
    rw [if_pos (by omega), if_pos (by omega), if_pos (by omega), if_pos (by omega)]
  · simp only [hy, if_false, Option.bind_some, ByteArray.size_append, z1]
    rw [if_pos (by omega), if_pos (by omega), if_pos (by omega), if_pos (by omega)]
theorem specDateText_is (y m d : Int) (k : Nat) (hk : 30 ≤ k) : spec_DateText.f k y m d = some (dateTxt y m d) := by
  obtain ⟨k, rfl⟩ : ∃ m, k = m + 1 := ⟨k - 1, by omega⟩
  have z1 : (⟨#[45]⟩ : ByteArray).size = 1 := rfl
  unfold spec_DateText.f spec_l2Year.f dateTxt dateB
  by_cases c1 : y ≥ -5000
  case neg => rw [if_neg c1, decide_eq_false (p := -5000 ≤ y ∧ y ≤ 9999 ∧ 1 ≤ m ∧ m ≤ 12 ∧ 1 ≤ d ∧ d ≤ 31) (by omega)]; simp [spec_DateText.j0]
  rw [if_pos c1]
  by_cases c2 : y ≤ 9999
  case neg => rw [decide_eq_false c2, decide_eq_false (p := -5000 ≤ y ∧ y ≤ 9999 ∧ 1 ≤ m ∧ m ≤ 12 ∧ 1 ≤ d ∧ d ≤ 31) (by omega)]; simp [spec_DateText.j0]
  rw [decide_eq_true c2]
  simp only [Option.bind_some, if_true]
  by_cases c3 : m < 1
  · rw [if_pos c3, decide_eq_false (p := -5000 ≤ y ∧ y ≤ 9999 ∧ 1 ≤ m ∧ m ≤ 12 ∧ 1 ≤ d ∧ d ≤ 31) (by omega)]; simp [spec_DateText.j0]
  rw [if_neg c3]
  by_cases c4 : m > 12
  · rw [if_pos c4, decide_eq_false (p := -5000 ≤ y ∧ y ≤ 9999 ∧ 1 ≤ m ∧ m ≤ 12 ∧ 1 ≤ d ∧ d ≤ 31) (by omega)]; simp [spec_DateText.j0]
  rw [if_neg c4]
  by_cases c5 : d < 1
  · rw [if_pos c5, decide_eq_false (p := -5000 ≤ y ∧ y ≤ 9999 ∧ 1 ≤ m ∧ m ≤ 12 ∧ 1 ≤ d ∧ d ≤ 31) (by omega)]; simp [spec_DateText.j0]
  rw [if_neg c5]
  by_cases c6 : d > 31
  · rw [decide_eq_true c6, decide_eq_false (p := -5000 ≤ y ∧ y ≤ 9999 ∧ 1 ≤ m ∧ m ≤ 12 ∧ 1 ≤ d ∧ d ≤ 31) (by omega)]; simp [spec_DateText.j0]
  rw [decide_eq_false c6, decide_eq_true (p := -5000 ≤ y ∧ y ≤ 9999 ∧ 1 ≤ m ∧ m ≤ 12 ∧ 1 ≤ d ∧ d ≤ 31) (by omega)]
  have p1 := pad_le m 2 (by omega) (by omega) (by omega)
  have p2 := pad_le d 2 (by omega) (by omega) (by omega)
  have p3 := pad_le y 4 (by omega) (by omega) (by omega)
  have p4 := pad_le (-y) 4 (by omega) (by omega) (by omega)
  have s1 := specDigits_is y 4 (by omega) (by omega) (by omega) k (by omega)
  have s2 := specDigits_is (-y) 4 (by omega) (by omega) (by omega) k (by omega)
  have s3 := specDigits_is m 2 (by omega) (by omega) (by omega) k (by omega)
  have s4 := specDigits_is d 2 (by omega) (by omega) (by omega) k (by omega)
  simp only [spec_DateText.j0, Bool.false_eq_true, if_false, if_true]
  rw [wrap_id (x := -y) (by omega) (by omega), show (4 : Int) = ((4 : Nat) : Int) from rfl, show (2 : Int) = ((2 : Nat) : Int) from rfl, s1, s2, s3, s4]
  by_cases hy : y < 0
  · simp only [hy, if_true, Option.bind_some, ByteArray.size_append, z1]
    rw [if_pos (by omega), if_pos (by omega), if_pos (by omega), if_pos (by omega), if_pos (by omega)]
  · simp only [hy, if_false, Option.bind_some, ByteArray.size_append, z1]
    rw [if_pos (by omega), if_pos (by omega), if_pos (by omega), if_pos (by omega)]

def leapB (c y : Int) : Bool := decide (Int.tmod y 4 = 0 ∧ (c = 2 ∨ ¬ Int.tmod y 100 = 0 ∨ Int.tmod y 400 = 0))
def goodYearB (c y : Int) : Bool := decide ((c = 1 ∨ c = 2) ∧ -5000 ≤ y ∧ y ≤ 9999)
theorem implLeap_is (c y : Int) : impl_leap.f c y = some (leapB c y) := by
  unfold impl_leap.f leapB
  by_cases h4 : Int.tmod y 4 = 0
  · by_cases h2 : c = 2
    · simp [h4, h2]
    · by_cases h100 : Int.tmod y 100 = 0
      · simp [h4, h2, h100]; rw [Bool.eq_iff_iff]; simp
      · simp [h4, h2, h100]
  · simp [h4]
theorem implGoodYear_is (c y : Int) : impl_goodYear.f c y = some (goodYearB c y) := by
  unfold impl_goodYear.f goodYearB
  by_cases h1 : c = 1
  · by_cases h3 : -5000 ≤ y <;> simp [h1, h3]
  · by_cases h2 : c = 2
    · by_cases h3 : -5000 ≤ y <;> simp [h2, h3]
    · simp [h1, h2]
theorem l2Mod_is (a b : Int) (hb : 0 < b) (hb2 : b ≤ 1000) (h1 : -1000000000 ≤ a) (h2 : a ≤ 1000000000) : spec_l2Mod.f a b = some (a % b) := by
  unfold spec_l2Mod.f spec_l2Floor.f
  rw [floor_is hb (by omega) (by omega)]
  simp only [Option.bind_some]
  have e := Int.mul_ediv_add_emod a b
  have h0 := Int.emod_nonneg a (by omega : b ≠ 0)
  have h1 := Int.emod_lt_of_pos a hb
  rw [wrap_id (x := b * (a / b)) (by omega) (by omega), wrap_id (by omega) (by omega)]
  congr 1; omega
theorem specLeap_is (c y : Int) (h1 : -1000000000 ≤ y) (h2 : y ≤ 1000000000) : spec_l2Leap.f c y = some (leapB c y) := by
  unfold spec_l2Leap.f leapB
  rw [l2Mod_is y 4 (by omega) (by omega) h1 h2, l2Mod_is y 100 (by omega) (by omega) h1 h2, l2Mod_is y 400 (by omega) (by omega) h1 h2]
  simp only [Option.bind_some, tm_zero]
  have b4 : ((y % 4) == 0) = decide (y % 4 = 0) := by rw [Bool.eq_iff_iff]; simp
  have b400 : ((y % 400) == 0) = decide (y % 400 = 0) := by rw [Bool.eq_iff_iff]; simp
  rw [b4, b400]
  by_cases hc : c = 2
  · simp [hc]
  · by_cases h4 : y % 4 = 0
    · by_cases h100 : y % 100 = 0
      · simp [hc, h4, h100]
      · simp [hc, h4, h100]
    · have : ¬ y % 400 = 0 := by omega
      simp [hc, h4, this]

def sumM (L : Bool) : Nat → Int
  | 0 => 0
  | 1 => 0
  | n + 2 => sumM L (n + 1) + mdV ((n + 1 : Nat) : Int) L
theorem sumM_succ (L : Bool) (n : Nat) (h : 1 ≤ n) : sumM L (n + 1) = sumM L n + mdV (n : Int) L := by
  obtain ⟨n, rfl⟩ : ∃ j, n = j + 1 := ⟨n - 1, by omega⟩
  rfl
theorem ml_le (m : Int) : 28 ≤ ml m ∧ ml m ≤ 31 := by unfold ml; split <;> (try split) <;> omega
theorem mdV_le (m : Int) (L : Bool) : 28 ≤ mdV m L ∧ mdV m L ≤ 31 := by
  unfold mdV; split
  · rename_i h; unfold ml; rw [if_pos h.1]; omega
  · exact ml_le m
theorem sumM_le (L : Bool) : ∀ n : Nat, 0 ≤ sumM L n ∧ sumM L n ≤ 31 * n
  | 0 => by simp [sumM]
  | 1 => by simp [sumM]
  | n + 2 => by
    have := sumM_le L (n + 1); have := mdV_le ((n + 1 : Nat) : Int) L
    simp only [sumM]; omega
/-- How many days lie ahead of a year's first one, from the year 0 on. -/
def ysV (c y : Int) : Int := if c = 1 then 365 * y + (y + 3) / 4 - (y + 99) / 100 + (y + 399) / 400 else 365 * y + (y + 3) / 4
theorem floorDiv_is (a b : Int) (hb : 0 < b) (h1 : -4611686018427387904 ≤ a) (h2 : a ≤ 4611686018427387904) : impl_floorDiv_int.f a b = some (a / b) := by
  unfold impl_floorDiv_int.f; exact floor_is hb h1 h2

theorem yearStart_is (c y : Int) (h1 : -100000 ≤ y) (h2 : y ≤ 100000) : impl_yearStart.f c y = some (ysV c y) := by
  unfold impl_yearStart.f ysV
  rw [wrap_id (x := 365 * y) (by omega) (by omega), wrap_id (x := y + 3) (by omega) (by omega), floorDiv_is (y + 3) 4 (by omega) (by omega) (by omega)]
  simp only [Option.bind_some]
  rw [wrap_id (x := y + 99) (by omega) (by omega), floorDiv_is (y + 99) 100 (by omega) (by omega) (by omega)]
  simp only [Option.bind_some]
  rw [wrap_id (x := y + 399) (by omega) (by omega), floorDiv_is (y + 399) 400 (by omega) (by omega) (by omega)]
  simp only [Option.bind_some]
  rw [wrap_id (x := 365 * y + (y + 3) / 4) (by omega) (by omega), wrap_id (x := -((y + 99) / 100)) (by omega) (by omega), wrap_id (x := -((y + 99) / 100) + (y + 399) / 400) (by omega) (by omega), wrap_id (x := 365 * y + (y + 3) / 4 + (-((y + 99) / 100) + (y + 399) / 400)) (by omega) (by omega)]
  split <;> (congr 1; try omega)

theorem rd_months (m : Int) (h1 : 1 ≤ m) (h2 : m ≤ 12) : rd [31, 28, 31, 30, 31, 30, 31, 31, 30, 31, 30, 31] (m - 1) = ml m := by
  rcases (by omega : m = 1 ∨ m = 2 ∨ m = 3 ∨ m = 4 ∨ m = 5 ∨ m = 6 ∨ m = 7 ∨ m = 8 ∨ m = 9 ∨ m = 10 ∨ m = 11 ∨ m = 12) with rfl | rfl | rfl | rfl | rfl | rfl | rfl | rfl | rfl | rfl | rfl | rfl <;> rfl
theorem specMonthDays1_is (c y m : Int) (h1 : -1000000000 ≤ y) (h2 : y ≤ 1000000000) (m1 : 1 ≤ m) (m2 : m ≤ 12) : spec_l2MonthDays.f c y m = some (mdV m (leapB c y)) := by
  unfold spec_l2MonthDays.f mdV
  have hm := ml_le m
  simp only [Option.bind_some]
  rw [wrap_id (x := m - 1) (by omega) (by omega), if_pos (by omega), if_pos (by simp; omega), specLeap_is c y h1 h2, rd_months m m1 m2]
  simp only [Option.bind_some]
  rw [wrap_id (x := ml m + 1) (by omega) (by omega)]
  by_cases e : m = 2
  · cases leapB c y <;> simp [e]
  · simp [e]

theorem specCal_is (c : Int) : spec_l2Cal.f c = some (decide (c = 1 ∨ c = 2)) := by
  unfold spec_l2Cal.f
  by_cases c1 : c = 1
  · simp [c1]
  · by_cases c2 : c = 2 <;> simp [c1, c2]
theorem specYear_is (y : Int) : spec_l2Year.f y = some (decide (-5000 ≤ y ∧ y ≤ 9999)) := by
  unfold spec_l2Year.f
  by_cases h1 : -5000 ≤ y <;> simp [h1]

/-- The day from which each calendar counts. -/
def bdV (c : Int) : Int := if c = 1 then 730485 else 730487
/-- What isDate says. -/
def isDateB (c y m d : Int) : Bool := decide (1 ≤ m ∧ m ≤ 12 ∧ 1 ≤ d) && (goodYearB c y && decide (d ≤ mdV m (leapB c y)))
def dcV (c y m d : Int) : Int := ysV c y + d - 1 + sumM (leapB c y) m.toNat
/-- What DayOf tells. -/
def dayOfV (c y m d : Int) : Int × Bool :=
  if isDateB c y m d = true ∧ -1000000 ≤ dcV c y m d - bdV c ∧ dcV c y m d - bdV c ≤ 1000000 then (dcV c y m d - bdV c, true) else (0, false)
theorem isDate_facts {c y m d : Int} (h : isDateB c y m d = true) : (c = 1 ∨ c = 2) ∧ -5000 ≤ y ∧ y ≤ 9999 ∧ 1 ≤ m ∧ m ≤ 12 ∧ 1 ≤ d ∧ d ≤ 31 := by
  unfold isDateB goodYearB at h
  simp only [Bool.and_eq_true, decide_eq_true_eq] at h
  have := mdV_le m (leapB c y)
  omega
theorem implMD (c y m : Int) (m1 : 1 ≤ m) (m2 : m ≤ 12) : impl_monthDays.f c y m = some (mdV m (leapB c y)) := by
  unfold impl_monthDays.f; rw [if_pos ⟨m1, m2⟩, implLeap_is]; rfl
theorem specDay_is (n : Int) : spec_l2Day.f n = some (decide (-1000000 ≤ n ∧ n ≤ 1000000)) := by
  unfold spec_l2Day.f
  by_cases h1 : -1000000 ≤ n <;> simp [h1]
theorem isDay_is (n : Int) : impl_isDay.f n = some (decide (-1000000 ≤ n ∧ n ≤ 1000000)) := by
  unfold impl_isDay.f
  by_cases h1 : -1000000 ≤ n <;> simp [h1]
theorem isDate_is (c y m d : Int) : impl_isDate.f c y m d = some (isDateB c y m d) := by
  unfold impl_isDate.f isDateB
  rw [implGoodYear_is]
  simp only [Option.bind_some]
  by_cases h1 : 1 ≤ m
  · by_cases h2 : m ≤ 12
    · by_cases h3 : 1 ≤ d
      · rw [if_pos h1, if_pos h2, if_pos h3, decide_eq_true (by omega : 1 ≤ m ∧ m ≤ 12 ∧ 1 ≤ d), implMD c y m h1 h2]
        cases goodYearB c y <;> simp
      · rw [if_pos h1, if_pos h2, if_neg h3, decide_eq_false (by omega)]; rfl
    · rw [if_pos h1, if_neg h2, decide_eq_false (by omega)]; rfl
  · rw [if_neg h1, decide_eq_false (by omega)]; rfl
theorem dayCount_l0 (c y m d : Int) (hm1 : 1 ≤ m) (hm2 : m ≤ 12) : ∀ (t k j : Nat) (n : Int), 1 ≤ j → (m - j : Int) = t → t < k → -1000000000 ≤ n → n + 31 * t ≤ 1000000000 →
    impl_dayCount.l0 k c n (j : Int) y m d = some (n + (sumM (leapB c y) m.toNat - sumM (leapB c y) j)) := by
  intro t
  induction t with
  | zero =>
    intro k j n hj ht hk h1 h2
    obtain ⟨k, rfl⟩ : ∃ q, k = q + 1 := ⟨k - 1, by omega⟩
    have e : m.toNat = j := by omega
    simp only [impl_dayCount.l0]
    rw [if_neg (by omega), e]
    congr 1; omega
  | succ t ih =>
    intro k j n hj ht hk h1 h2
    obtain ⟨k, rfl⟩ : ∃ q, k = q + 1 := ⟨k - 1, by omega⟩
    have hmd := mdV_le (j : Int) (leapB c y)
    have hs := sumM_succ (leapB c y) j hj
    simp only [impl_dayCount.l0]
    rw [if_pos (by omega), implMD c y j (by omega) (by omega)]
    simp only [Option.bind_some]
    rw [wrap_id (x := n + mdV (j : Int) (leapB c y)) (by omega) (by omega), wrap_id (x := (j : Int) + 1) (by omega) (by omega), show ((j : Int) + 1) = ((j + 1 : Nat) : Int) from by omega, ih k (j + 1) _ (by omega) (by omega) (by omega) (by omega) (by omega)]
    congr 1; omega
theorem dayCount_is (c y m d : Int) (k : Nat) (hk : 14 ≤ k) (hy1 : -5000 ≤ y) (hy2 : y ≤ 9999) (hm1 : 1 ≤ m) (hm2 : m ≤ 12) (hd1 : 1 ≤ d) (hd2 : d ≤ 31) : impl_dayCount.f k c y m d = some (dcV c y m d) := by
  have hyb : -40000000 ≤ ysV c y ∧ ysV c y ≤ 40000000 := by unfold ysV; split <;> omega
  unfold impl_dayCount.f dcV
  rw [yearStart_is c y (by omega) (by omega)]
  simp only [Option.bind_some]
  rw [wrap_id (x := ysV c y + d) (by omega) (by omega), wrap_id (x := ysV c y + d - 1) (by omega) (by omega)]
  have := dayCount_l0 c y m d hm1 hm2 (m - 1).toNat k 1 (ysV c y + d - 1) (by omega) (by omega) (by omega) (by omega) (by omega)
  rw [show ((1 : Nat) : Int) = 1 from rfl] at this
  rw [this]
  congr 1
  simp only [sumM]; omega
theorem baseDay_is (c : Int) (k : Nat) (hk : 14 ≤ k) : impl_baseDay.f k c = some (bdV c) := by
  unfold impl_baseDay.f bdV
  by_cases h : c = 1
  · rw [if_pos h, if_pos h, yearStart_is 1 2000 (by omega) (by omega)]; rfl
  · rw [if_neg h, if_neg h, dayCount_is 2 1999 12 19 k hk (by omega) (by omega) (by omega) (by omega) (by omega) (by omega)]
    have e1 : dcV 2 1999 12 19 = 730487 := by decide +kernel
    rw [e1]; rfl
theorem implDayOf_is (c y m d : Int) (k : Nat) (hk : 14 ≤ k) : impl_DayOf.f k c y m d = some (dayOfV c y m d) := by
  unfold impl_DayOf.f dayOfV
  rw [isDate_is]
  simp only [Option.bind_some]
  cases hg : isDateB c y m d
  · simp
  · obtain ⟨f1, f2, f3, f4, f5, f6, f7⟩ := isDate_facts hg
    have hbnd : -100000000 ≤ dcV c y m d ∧ dcV c y m d ≤ 100000000 := by
      unfold dcV ysV; have := sumM_le (leapB c y) m.toNat; split <;> omega
    have hbb : 730485 ≤ bdV c ∧ bdV c ≤ 730487 := by unfold bdV; split <;> omega
    rw [if_pos rfl, dayCount_is c y m d k hk f2 f3 f4 f5 f6 f7, baseDay_is c k hk]
    simp only [Option.bind_some]
    rw [wrap_id (x := dcV c y m d - bdV c) (by omega) (by omega), isDay_is]
    simp only [Option.bind_some, decide_eq_true_eq, true_and]
    split <;> rfl

theorem specFloor_is (a b : Int) (hb : 0 < b) (h1 : -4611686018427387904 ≤ a) (h2 : a ≤ 4611686018427387904) : spec_l2Floor.f a b = some (a / b) := by
  unfold spec_l2Floor.f; exact floor_is hb h1 h2
/-- The reference's days to a year are the program's, counted from another day. -/
theorem specDays_is (c y : Int) (hc : c = 1 ∨ c = 2) (h1 : -100000 ≤ y) (h2 : y ≤ 100000) : spec_l2Days.f c y = some (ysV c y - bdV c - if c = 2 then 13 else 0) := by
  unfold spec_l2Days.f ysV bdV
  rw [wrap_id (x := y - 1) (by omega) (by omega), specFloor_is (y - 1) 4 (by omega) (by omega) (by omega)]
  simp only [Option.bind_some]
  rw [specFloor_is (y - 1) 100 (by omega) (by omega) (by omega)]
  simp only [Option.bind_some]
  rw [specFloor_is (y - 1) 400 (by omega) (by omega) (by omega)]
  simp only [Option.bind_some]
  rw [wrap_id (x := y - 2000) (by omega) (by omega), wrap_id (x := (y - 2000) * 365) (by omega) (by omega), wrap_id (x := -((y - 1) / 100)) (by omega) (by omega), wrap_id (x := -((y - 1) / 100) + (y - 1) / 400) (by omega) (by omega), wrap_id (x := (y - 1) / 4 + (-((y - 1) / 100) + (y - 1) / 400)) (by omega) (by omega)]
  rw [wrap_id (x := (y - 2000) * 365 + ((y - 1) / 4 + (-((y - 1) / 100) + (y - 1) / 400))) (by omega) (by omega), wrap_id (x := (y - 2000) * 365 + ((y - 1) / 4 + (-((y - 1) / 100) + (y - 1) / 400)) - 484) (by omega) (by omega), wrap_id (x := (y - 2000) * 365 + (y - 1) / 4) (by omega) (by omega), wrap_id (x := (y - 2000) * 365 + (y - 1) / 4 - 499) (by omega) (by omega)]
  rcases hc with rfl | rfl
  · rw [if_pos rfl, if_pos rfl, if_pos rfl, if_neg (by omega)]; congr 1; omega
  · rw [if_neg (by omega), if_neg (by omega), if_neg (by omega), if_pos rfl]; congr 1; omega
theorem specDayOf_l0 (c y m d : Int) (hc : c = 1 ∨ c = 2) (hy1 : -5000 ≤ y) (hy2 : y ≤ 9999) (hm1 : 1 ≤ m) (hm2 : m ≤ 12) : ∀ (t k j : Nat) (n : Int), 1 ≤ j → (m - j : Int) = t → t < k → -1000000000 ≤ n → n + 31 * t ≤ 1000000000 →
    spec_l2DayOf.l0 k c n (j : Int) y m d = some (n + (sumM (leapB c y) m.toNat - sumM (leapB c y) j) + (if c = 2 then 13 else 0), true) := by
  intro t
  induction t with
  | zero =>
    intro k j n hj ht hk h1 h2
    obtain ⟨k, rfl⟩ : ∃ q, k = q + 1 := ⟨k - 1, by omega⟩
    have e : m.toNat = j := by omega
    simp only [spec_l2DayOf.l0]
    rw [if_neg (by omega), wrap_id (x := n + 13) (by omega) (by omega), e]
    rcases hc with rfl | rfl
    · rw [if_neg (by omega), if_neg (by omega)]; congr 2; omega
    · rw [if_pos rfl, if_pos rfl]; congr 2; omega
  | succ t ih =>
    intro k j n hj ht hk h1 h2
    obtain ⟨k, rfl⟩ : ∃ q, k = q + 1 := ⟨k - 1, by omega⟩
    have hmd := mdV_le (j : Int) (leapB c y)
    have hs := sumM_succ (leapB c y) j hj
    simp only [spec_l2DayOf.l0]
    rw [if_pos (by omega), specMonthDays1_is c y j (by omega) (by omega) (by omega) (by omega)]
    simp only [Option.bind_some]
    rw [wrap_id (x := n + mdV (j : Int) (leapB c y)) (by omega) (by omega), wrap_id (x := (j : Int) + 1) (by omega) (by omega), show ((j : Int) + 1) = ((j + 1 : Nat) : Int) from by omega, ih k (j + 1) _ (by omega) (by omega) (by omega) (by omega) (by omega)]
    congr 2; omega
theorem specL2DayOf_is (c y m d : Int) (k : Nat) : spec_l2DayOf.f (k + 14) c y m d = some (if isDateB c y m d = true then (dcV c y m d - bdV c, true) else (0, false)) := by
  have jt : spec_l2DayOf.j0 (k + 14) c true y m d = some (0, false) := by
    show spec_l2DayOf.j0 (k + 13 + 1) c true y m d = _
    simp only [spec_l2DayOf.j0, if_true]
  unfold spec_l2DayOf.f
  simp only [specCal_is, specYear_is, Option.bind_some, decide_eq_true_eq]
  by_cases hc : c = 1 ∨ c = 2
  · by_cases hy : -5000 ≤ y ∧ y ≤ 9999
    · have hg : goodYearB c y = true := decide_eq_true ⟨hc, hy⟩
      by_cases m1 : m < 1
      · have e0 : isDateB c y m d = false := by unfold isDateB; rw [decide_eq_false (by omega)]; rfl
        rw [if_pos hc, if_pos hy, if_pos m1, jt, e0]; rfl
      by_cases m2 : m > 12
      · have e0 : isDateB c y m d = false := by unfold isDateB; rw [decide_eq_false (by omega)]; rfl
        rw [if_pos hc, if_pos hy, if_neg m1, if_pos m2, jt, e0]; rfl
      by_cases d1 : d < 1
      · have e0 : isDateB c y m d = false := by unfold isDateB; rw [decide_eq_false (by omega)]; rfl
        rw [if_pos hc, if_pos hy, if_neg m1, if_neg m2, if_pos d1, jt, e0]; rfl
      rw [if_pos hc, if_pos hy, if_neg m1, if_neg m2, if_neg d1, specMonthDays1_is c y m (by omega) (by omega) (by omega) (by omega)]
      simp only [Option.bind_some]
      by_cases d2 : d > mdV m (leapB c y)
      · have e0 : isDateB c y m d = false := by unfold isDateB; rw [decide_eq_false (by omega : ¬ d ≤ mdV m (leapB c y))]; simp
        rw [decide_eq_true d2, jt, e0]; rfl
      · have e0 : isDateB c y m d = true := by unfold isDateB; rw [decide_eq_true (by omega : 1 ≤ m ∧ m ≤ 12 ∧ 1 ≤ d), hg, decide_eq_true (by omega : d ≤ mdV m (leapB c y))]; rfl
        have hmd := mdV_le m (leapB c y)
        have hyb : -40000000 ≤ ysV c y ∧ ysV c y ≤ 40000000 := by unfold ysV; split <;> omega
        have hbb : 730485 ≤ bdV c ∧ bdV c ≤ 730487 := by unfold bdV; split <;> omega
        rw [decide_eq_false d2, e0, if_pos rfl]
        show spec_l2DayOf.j0 (k + 13 + 1) c false y m d = _
        simp only [spec_l2DayOf.j0, specDays_is c y hc (by omega) (by omega), Option.bind_some, Bool.false_eq_true, if_false]
        have hq : (0 : Int) ≤ (if c = 2 then 13 else 0) ∧ (if c = 2 then (13 : Int) else 0) ≤ 13 := by split <;> omega
        generalize hqq : (if c = 2 then (13 : Int) else 0) = q at hq ⊢
        rw [wrap_id (x := ysV c y - bdV c - q + d) (by omega) (by omega), wrap_id (x := ysV c y - bdV c - q + d - 1) (by omega) (by omega)]
        have := specDayOf_l0 c y m d hc hy.1 hy.2 (by omega) (by omega) (m - 1).toNat (k + 13) 1 (ysV c y - bdV c - q + d - 1) (by omega) (by omega) (by omega) (by omega) (by omega)
        rw [hqq] at this
        rw [show ((1 : Nat) : Int) = 1 from rfl] at this
        rw [this]
        unfold dcV
        congr 2
        show _ = _
        simp only [sumM]; omega
    · have eg : goodYearB c y = false := decide_eq_false (fun h => hy h.2)
      have e0 : isDateB c y m d = false := by unfold isDateB; rw [eg]; simp
      rw [if_pos hc, if_neg hy, jt, e0]; rfl
  · have eg : goodYearB c y = false := decide_eq_false (fun h => hc h.1)
    have e0 : isDateB c y m d = false := by unfold isDateB; rw [eg]; simp
    rw [if_neg hc, jt, e0]; rfl

/-! numbers read out of texts -/
/-- The digits' number; -1 where there are others, or none, or more than six. -/
def l2go (acc : Int) : List Int → Int
  | [] => acc
  | d :: r => if 48 ≤ d ∧ d ≤ 57 then l2go (acc * 10 + (d - 48)) r else -1
def l2L (L : List Int) : Int := if L.length < 1 then -1 else if L.length > 6 then -1 else l2go 0 L
def p10 : Nat → Int
  | 0 => 1
  | n + 1 => p10 n * 10
theorem p10_le : ∀ i : Nat, i ≤ 6 → 1 ≤ p10 i ∧ p10 i ≤ 1000000 := by
  intro i h
  rcases (by omega : i = 0 ∨ i = 1 ∨ i = 2 ∨ i = 3 ∨ i = 4 ∨ i = 5 ∨ i = 6) with rfl | rfl | rfl | rfl | rfl | rfl | rfl <;> decide
theorem at_bt (s : ByteArray) (i : Nat) (h : i < (bytesOf s).length) : (bytesOf s)[i] = bt s (i : Int) := by
  have := rd_bytesOf s (i : Int)
  unfold rd at this
  rw [Int.toNat_natCast, List.getD_eq_getElem?_getD, List.getElem?_eq_getElem h] at this
  exact this
theorem l2_l0 (s : ByteArray) : ∀ (n k i : Nat) (acc : Int), i + n = s.size → i + n ≤ 6 → 0 ≤ acc → acc < p10 i → spec_l2Number.l0 (k + n + 1) s acc (i : Int) = some (l2go acc ((bytesOf s).drop i)) := by
  intro n
  induction n with
  | zero =>
    intro k i acc hi h6 h0 h1
    simp only [spec_l2Number.l0]
    rw [if_neg (by omega), List.drop_eq_nil_of_le (by rw [bytesOf_length]; omega)]
    rfl
  | succ n ih =>
    intro k i acc hi h6 h0 h1
    have hlt : i < (bytesOf s).length := by rw [bytesOf_length]; omega
    have hb := at_bt s i hlt
    have hr := bt_range s (i : Int)
    have hp := p10_le i (by omega)
    have ih' := ih k (i + 1)
    obtain ⟨m, hm⟩ : ∃ m, m = k + n + 1 := ⟨_, rfl⟩
    rw [show k + (n + 1) + 1 = m + 1 from by omega]
    rw [← hm] at ih'
    simp only [spec_l2Number.l0, spec_l1Digit.f]
    rw [if_pos (by omega), if_pos (by omega), List.drop_eq_getElem_cons hlt, hb]
    show _ = some (if 48 ≤ bt s (i : Int) ∧ bt s (i : Int) ≤ 57 then l2go (acc * 10 + (bt s (i : Int) - 48)) ((bytesOf s).drop (i + 1)) else -1)
    by_cases a : bt s (i : Int) ≥ 48
    · rw [if_pos a]
      simp only [Option.bind_some]
      by_cases b : bt s (i : Int) ≤ 57
      · rw [if_pos (by simp [b]), if_pos ⟨a, b⟩, wrap_id (x := acc * 10) (by omega) (by omega), show (bt s (i : Int) - 48) % 256 = bt s (i : Int) - 48 from by omega, wrap_id (by omega) (by omega), wrap_id (by omega) (by omega), show (i : Int) + 1 = ((i + 1 : Nat) : Int) from by omega]
        exact ih' _ (by omega) (by omega) (by omega) (by show _ < p10 i * 10; omega)
      · rw [if_neg (by simp [b]), if_neg (by omega)]
    · rw [if_neg a, if_neg (by omega)]; rfl
theorem l2_is (k : Nat) (s : ByteArray) : spec_l2Number.f (k + 10) s = some (l2L (bytesOf s)) := by
  have hz := bytesOf_length s
  unfold spec_l2Number.f l2L
  by_cases h1 : s.size < 1
  · rw [if_pos (by omega), if_pos (by omega)]; simp [spec_l2Number.j0]
  · rw [if_neg (by omega), if_neg (by omega)]
    by_cases h2 : s.size > 6
    · rw [decide_eq_true (by omega), if_pos (by omega)]; simp [spec_l2Number.j0]
    · rw [decide_eq_false (by omega), if_neg (by omega)]
      simp only [spec_l2Number.j0]
      rw [if_neg (by decide)]
      have := l2_l0 s s.size (k + 8 - s.size) 0 0 (by omega) (by omega) (by omega) (by decide)
      rw [show k + 8 - s.size + s.size + 1 = k + 9 from by omega] at this
      simpa using this
theorem bytes_ext (s : ByteArray) (i j : Nat) : bytesOf (s.extract i j) = ((bytesOf s).drop i).take (j - i) := by
  unfold bytesOf
  rw [ByteArray.data_extract, Array.toList_extract, List.extract, List.map_take, List.map_drop]
def txtL (r : Int) : List Int := bytesOf (txt r)
theorem bytes_app (x y : ByteArray) : bytesOf (x ++ y) = bytesOf x ++ bytesOf y := by
  unfold bytesOf; rw [ByteArray.data_append]; simp
theorem txtL_nat (u : Nat) : txtL (u : Int) = (Lib.decDigits u).map fun b => (b.toNat : Int) := by
  have e : Lib.itoa (u : Int) = Lib.decDigits u := by unfold Lib.itoa; rw [if_neg (by omega)]; simp
  unfold txtL bytesOf txt; rw [e]
theorem txtL_digit (u : Nat) : ∀ x ∈ txtL (u : Int), 48 ≤ x ∧ x ≤ 57 := by
  intro x hx
  rw [txtL_nat, Lib.decDigits_eq, List.map_map] at hx
  obtain ⟨t, _, rfl⟩ := List.mem_map.1 hx
  simp only [Function.comp, Lib.dg, UInt8.toNat_ofNat']
  omega
theorem toNat_dig (d : Nat) (h : d ≤ 9) : ((UInt8.ofNat (48 + d)).toNat : Int) = 48 + d := by
  rw [UInt8.toNat_ofNat']; omega
theorem l2_txt (r : Int) (h1 : 1 ≤ r) (h2 : r ≤ 1000) : l2L (txtL r) = r := by
  obtain ⟨u, rfl⟩ : ∃ u : Nat, r = u := ⟨r.toNat, by omega⟩
  rw [txtL_nat]
  have st : ∀ (acc : Int) (d : Nat) (l : List Int), d ≤ 9 → l2go acc ((48 + (d : Int)) :: l) = l2go (acc * 10 + d) l := by
    intro acc d l hd
    show (if 48 ≤ 48 + (d : Int) ∧ 48 + (d : Int) ≤ 57 then l2go (acc * 10 + (48 + (d : Int) - 48)) l else -1) = _
    rw [if_pos (by omega), show (48 + (d : Int) - 48) = d from by omega]
  by_cases a : u < 10
  · rw [Lib.decDigits, dif_pos a]
    simp only [List.map_cons, List.map_nil, toNat_dig u (by omega)]
    show l2go 0 [48 + (u : Int)] = _
    rw [st 0 u [] (by omega)]; show (0 : Int) * 10 + u = u; omega
  · rw [Lib.decDigits, dif_neg a]
    by_cases b : u < 100
    · rw [Lib.decDigits, dif_pos (by omega)]
      simp only [List.map_append, List.map_cons, List.map_nil, toNat_dig (u / 10) (by omega), toNat_dig (u % 10) (by omega)]
      show l2go 0 [48 + ((u / 10 : Nat) : Int), 48 + ((u % 10 : Nat) : Int)] = _
      rw [st 0 _ _ (by omega), st _ _ _ (by omega)]; show ((0 : Int) * 10 + (u / 10 : Nat)) * 10 + (u % 10 : Nat) = u; omega
    · rw [Lib.decDigits, dif_neg (by omega)]
      by_cases c : u < 1000
      · rw [Lib.decDigits, dif_pos (by omega)]
        simp only [List.map_append, List.map_cons, List.map_nil, toNat_dig (u / 10 / 10) (by omega), toNat_dig (u / 10 % 10) (by omega), toNat_dig (u % 10) (by omega)]
        show l2go 0 [48 + ((u / 10 / 10 : Nat) : Int), 48 + ((u / 10 % 10 : Nat) : Int), 48 + ((u % 10 : Nat) : Int)] = _
        rw [st 0 _ _ (by omega), st _ _ _ (by omega), st _ _ _ (by omega)]; show (((0 : Int) * 10 + (u / 10 / 10 : Nat)) * 10 + (u / 10 % 10 : Nat)) * 10 + (u % 10 : Nat) = u; omega
      · obtain rfl : u = 1000 := by omega
        rw [Lib.decDigits, dif_neg (by decide), Lib.decDigits, dif_pos (by decide)]
        rfl
theorem decFrom_snoc : ∀ (l : List UInt8) (acc n : Nat) (b : UInt8) (d : Nat), Lib.decFrom acc l = some n → Lib.digitVal b = some d → Lib.decFrom acc (l ++ [b]) = some (n * 10 + d)
  | [], acc, n, b, d, h, hb => by
    simp only [Lib.decFrom, Option.some.injEq] at h
    subst h
    simp [Lib.decFrom, hb]
  | a :: t, acc, n, b, d, h, hb => by
    simp only [Lib.decFrom, List.cons_append] at h ⊢
    cases ha : Lib.digitVal a with
    | none => simp [ha] at h
    | some e => simp only [ha] at h ⊢; exact decFrom_snoc t _ n b d h hb
theorem digitVal_dig (d : Nat) (h : d ≤ 9) : Lib.digitVal (UInt8.ofNat (48 + d)) = some d := by
  have e : (UInt8.ofNat (48 + d)).toNat = 48 + d := by rw [UInt8.toNat_ofNat']; omega
  unfold Lib.digitVal
  rw [e, if_pos (by omega)]; congr 1; omega
theorem decFrom_dec (u : Nat) : Lib.decFrom 0 (Lib.decDigits u) = some u := by
  induction u using Nat.strongRecOn with
  | _ u ih =>
    by_cases h : u < 10
    · rw [Lib.decDigits, dif_pos h]
      simp only [Lib.decFrom]; rw [digitVal_dig u (by omega)]; simp [Lib.decFrom]
    · rw [Lib.decDigits, dif_neg h, decFrom_snoc _ _ _ _ _ (ih (u / 10) (by omega)) (digitVal_dig (u % 10) (by omega))]
      congr 1; omega

/-! Reading a date: either takes a text alone that is the text of the date read, and reads every date's text as that date. -/
theorem specDayOfK (c y m d : Int) (k : Nat) (hk : 14 ≤ k) : spec_DayOf.f k c y m d = some (dayOfV c y m d) := by
  obtain ⟨k, rfl⟩ : ∃ q, k = q + 14 := ⟨k - 14, by omega⟩
  unfold spec_DayOf.f dayOfV
  rw [specL2DayOf_is c y m d k]
  cases isDateB c y m d
  · simp
  · simp only [if_true, Option.bind_some, specDay_is, true_and, decide_eq_true_eq]
    split <;> rfl
def isD (x : Int) : Bool := decide (48 ≤ x ∧ x ≤ 57)
def padL (n : Int) (m : Nat) : List Int := bytesOf (pad n m)
theorem bytes_zeros (q : Nat) : bytesOf (zeros q) = List.replicate q 48 := by
  unfold zeros
  rw [bytesOf_strOfNums]
  intro x hx
  obtain ⟨_, rfl⟩ := List.mem_replicate.1 hx
  omega
theorem padL_eq (n : Int) (m : Nat) : padL n m = List.replicate (m - (txt n).size) 48 ++ txtL n := by
  unfold padL pad txtL; rw [bytes_app, bytes_zeros]
theorem nDig9 (u : Nat) (h : u ≤ 9999) : Lib.nDigits u ≤ 4 := by
  by_cases a : u < 10
  · rw [Lib.nDigits_small a]; omega
  · rw [Lib.nDigits_big a]
    by_cases b : u / 10 < 10
    · rw [Lib.nDigits_small b]; omega
    · rw [Lib.nDigits_big b]
      by_cases c : u / 10 / 10 < 10
      · rw [Lib.nDigits_small c]; omega
      · rw [Lib.nDigits_big c, Lib.nDigits_small (by omega)]; omega
theorem nDig2 (u : Nat) (h : u ≤ 99) : Lib.nDigits u ≤ 2 := by
  by_cases a : u < 10
  · rw [Lib.nDigits_small a]; omega
  · rw [Lib.nDigits_big a, Lib.nDigits_small (by omega)]; omega
theorem padL_len (u m : Nat) (h : Lib.nDigits u ≤ m) : (padL (u : Int) m).length = m := by
  unfold padL
  rw [bytesOf_length]
  unfold pad
  rw [ByteArray.size_append, zeros_size, txt_size]; omega
theorem padL_D (u m : Nat) : ∀ x ∈ padL (u : Int) m, isD x = true := by
  intro x hx
  rw [padL_eq] at hx
  rcases List.mem_append.1 hx with h | h
  · obtain ⟨_, rfl⟩ := List.mem_replicate.1 h; rfl
  · exact decide_eq_true (txtL_digit u x h)
theorem l2go_snoc : ∀ (l : List Int) (acc d : Int), (∀ x ∈ l, isD x = true) → 0 ≤ d → d ≤ 9 → l2go acc (l ++ [48 + d]) = l2go acc l * 10 + d
  | [], acc, d, _, h1, h2 => by
    show (if 48 ≤ 48 + d ∧ 48 + d ≤ 57 then acc * 10 + (48 + d - 48) else -1) = acc * 10 + d
    rw [if_pos (by omega)]; omega
  | x :: l, acc, d, hl, h1, h2 => by
    have hx := of_decide_eq_true (hl x (by simp))
    show (if 48 ≤ x ∧ x ≤ 57 then l2go (acc * 10 + (x - 48)) (l ++ [48 + d]) else -1) = (if 48 ≤ x ∧ x ≤ 57 then l2go (acc * 10 + (x - 48)) l else -1) * 10 + d
    rw [if_pos hx, if_pos hx]
    exact l2go_snoc l _ d (fun y hy => hl y (by simp [hy])) h1 h2
theorem l2go_txt (u : Nat) : l2go 0 (txtL (u : Int)) = u := by
  induction u using Nat.strongRecOn with
  | _ u ih =>
    by_cases h : u < 10
    · rw [txtL_nat, Lib.decDigits, dif_pos h]
      simp only [List.map_cons, List.map_nil, toNat_dig u (by omega)]
      show (if (48 : Int) ≤ 48 + (u : Int) ∧ 48 + (u : Int) ≤ 57 then (0 : Int) * 10 + (48 + (u : Int) - 48) else -1) = _
      rw [if_pos (by omega)]; omega
    · have e : txtL (u : Int) = txtL ((u / 10 : Nat) : Int) ++ [48 + ((u % 10 : Nat) : Int)] := by
        rw [txtL_nat, txtL_nat, Lib.decDigits, dif_neg h, List.map_append]
        simp only [List.map_cons, List.map_nil, toNat_dig (u % 10) (by omega)]
      rw [e, l2go_snoc _ _ _ (fun x hx => decide_eq_true (txtL_digit (u / 10) x hx)) (by omega) (by omega), ih (u / 10) (by omega)]
      omega
theorem l2go_rep : ∀ (q : Nat) (l : List Int), l2go 0 (List.replicate q 48 ++ l) = l2go 0 l
  | 0, l => rfl
  | q + 1, l => by
    show (if (48 : Int) ≤ 48 ∧ (48 : Int) ≤ 57 then l2go (0 * 10 + (48 - 48)) (List.replicate q 48 ++ l) else -1) = _
    rw [if_pos (by omega)]
    exact l2go_rep q l
theorem l2go_pad (u m : Nat) : l2go 0 (padL (u : Int) m) = u := by rw [padL_eq, l2go_rep, l2go_txt]
theorem l2L_pad (u m : Nat) (h : Lib.nDigits u ≤ m) (h1 : 1 ≤ m) (h2 : m ≤ 6) : l2L (padL (u : Int) m) = u := by
  unfold l2L
  rw [padL_len u m h, if_neg (by omega), if_neg (by omega), l2go_pad]
/-! the library's number -/
theorem decFrom_go : ∀ (l : List UInt8) (acc : Nat), (∀ b ∈ l, isD (b.toNat : Int) = true) → ∃ n : Nat, Lib.decFrom acc l = some n ∧ (n : Int) = l2go (acc : Int) (l.map fun b => (b.toNat : Int))
  | [], acc, _ => ⟨acc, rfl, rfl⟩
  | b :: t, acc, h => by
    have hb := of_decide_eq_true (h b (by simp))
    obtain ⟨d, hd, hd9⟩ : ∃ d : Nat, b.toNat = 48 + d ∧ d ≤ 9 := ⟨b.toNat - 48, by omega, by omega⟩
    obtain ⟨n, h1, h2⟩ := decFrom_go t (acc * 10 + d) (fun y hy => h y (by simp [hy]))
    have hv : Lib.digitVal b = some d := by
      unfold Lib.digitVal
      rw [hd, if_pos (by omega)]; congr 1; omega
    refine ⟨n, ?_, ?_⟩
    · show (match Lib.digitVal b with | some d => Lib.decFrom (acc * 10 + d) t | none => none) = _
      rw [hv]; exact h1
    · rw [h2, List.map_cons]
      show _ = if 48 ≤ (b.toNat : Int) ∧ (b.toNat : Int) ≤ 57 then l2go ((acc : Int) * 10 + ((b.toNat : Int) - 48)) _ else -1
      rw [if_pos hb, hd]
      congr 1; omega
theorem atoi_D (y : ByteArray) (L : List Int) (hy : bytesOf y = L) (hD : ∀ x ∈ L, isD x = true) (hne : L ≠ []) (hl : L.length ≤ 10) : strconv_Atoi.f y = some (l2go 0 L, none) ∧ Lib.decNat y.data.toList = some (l2go 0 L).toNat ∧ 0 ≤ l2go 0 L := by
  have hz := bytesOf_length y
  rw [hy] at hz
  have hb : ∀ b ∈ y.data.toList, isD (b.toNat : Int) = true := fun b hb => hD _ (by rw [← hy]; exact List.mem_map.2 ⟨b, hb, rfl⟩)
  obtain ⟨n, h1, h2⟩ := decFrom_go y.data.toList 0 hb
  have h2' : (n : Int) = l2go 0 L := by rw [← hy]; exact h2
  have hnl : y.data.toList ≠ [] := by
    intro e; apply hne; rw [← hy]; unfold bytesOf; rw [e]; rfl
  have hdn : Lib.decNat y.data.toList = some n := by
    unfold Lib.decNat
    cases h : y.data.toList with
    | nil => exact absurd h hnl
    | cons b r => rw [h] at h1; simp [h1]
  have hyl : y.data.toList.length ≤ 10 := by
    have := congrArg List.length hy
    unfold bytesOf at this
    rw [List.length_map] at this; omega
  refine ⟨?_, by rw [hdn, ← h2']; rfl, by omega⟩
  unfold strconv_Atoi.f
  rw [if_pos (by omega)]
  unfold atoiV
  rw [Lib.atoiAll_short _ (by omega)]
  have e3 : Lib.atoi y.data.toList = some (n : Int) := by
    cases h : y.data.toList with
    | nil => exact absurd h hnl
    | cons b r =>
      have hb0 := of_decide_eq_true (hb b (by rw [h]; simp))
      have n1 : (b == 45) = false := by
        simp; intro e; subst e; exact absurd hb0 (by decide)
      have n2 : (b == 43) = false := by
        simp; intro e; subst e; exact absurd hb0 (by decide)
      have e3 : Lib.atoi (b :: r) = if b == 45 then (Lib.decNat r).map (fun (m : Nat) => -(m : Int)) else if b == 43 then (Lib.decNat r).map (fun (m : Nat) => (m : Int)) else (Lib.decNat (b :: r)).map (fun (m : Nat) => (m : Int)) := rfl
      rw [n1, n2] at e3
      simp only [Bool.false_eq_true, if_false] at e3
      rw [h] at hdn
      rw [e3, hdn]; rfl
  rw [e3, ← h2']; rfl
theorem atoi_neg (y : ByteArray) (L : List Int) (hy : bytesOf y = 45 :: L) (hD : ∀ x ∈ L, isD x = true) (hne : L ≠ []) (hl : L.length ≤ 10) : strconv_Atoi.f y = some (-(l2go 0 L), none) := by
  obtain ⟨z, hz⟩ : ∃ z, z = strOfNums L := ⟨_, rfl⟩
  have hok : okL L := by
    intro x hx
    have := okL_bytesOf y x (by rw [hy]; simp [hx])
    exact this
  have hzb : bytesOf z = L := by rw [hz]; exact bytesOf_strOfNums L hok
  obtain ⟨_, h1, h0⟩ := atoi_D z L hzb hD hne hl
  have hyz : y.data.toList = 45 :: z.data.toList := by
    have e : y = (⟨#[45]⟩ : ByteArray) ++ z := bytesOf_inj (by rw [hy, bytes_app, hzb]; rfl)
    rw [e, ByteArray.data_append]; simp
  have hzl := bytesOf_length z
  rw [hzb] at hzl
  have hyl := bytesOf_length y
  rw [hy, List.length_cons] at hyl
  unfold strconv_Atoi.f
  rw [if_pos (by omega)]
  unfold atoiV
  have hzl2 : z.data.toList.length ≤ 10 := by
    have := congrArg List.length hzb
    unfold bytesOf at this
    rw [List.length_map] at this; omega
  rw [hyz, Lib.atoiAll_short _ (by simp; omega)]
  have e3 : Lib.atoi (45 :: z.data.toList) = (Lib.decNat z.data.toList).map fun (m : Nat) => -(m : Int) := rfl
  rw [e3, h1]
  show some _ = _
  simp only [Option.map_some, Lib.NumEnd.ofOption]
  rw [show ((l2go 0 L).toNat : Int) = l2go 0 L from by omega]
theorem ext_list (s : ByteArray) (i j : Nat) : bytesOf (s.extract i j) = ((bytesOf s).drop i).take (j - i) := bytes_ext s i j
/-! a date's text, in lists -/
def sgL (y : Int) : List Int := if y < 0 then [45] else []
theorem date_nums {y m d : Int} (h : dateB y m d = true) : -5000 ≤ y ∧ y ≤ 9999 ∧ 1 ≤ m ∧ m ≤ 12 ∧ 1 ≤ d ∧ d ≤ 31 := by unfold dateB at h; exact of_decide_eq_true h
theorem bytes_date (y m d : Int) (h : dateB y m d = true) : ∃ u v w : Nat, (y = if y < 0 then -(u : Int) else u) ∧ m = v ∧ d = w ∧ u ≤ 9999 ∧ v ≤ 12 ∧ w ≤ 31 ∧ bytesOf (dateTxt y m d) = sgL y ++ (padL u 4 ++ 45 :: (padL v 2 ++ 45 :: padL w 2)) := by
  have hb := date_nums h
  obtain ⟨v, rfl⟩ : ∃ u : Nat, m = u := ⟨m.toNat, by omega⟩
  obtain ⟨w, rfl⟩ : ∃ u : Nat, d = u := ⟨d.toNat, by omega⟩
  unfold dateTxt sgL
  rw [if_pos h]
  by_cases hy : y < 0
  · obtain ⟨u, hu⟩ : ∃ u : Nat, -y = u := ⟨(-y).toNat, by omega⟩
    refine ⟨u, v, w, by rw [if_pos hy]; omega, rfl, rfl, by omega, by omega, by omega, ?_⟩
    rw [if_pos hy, if_pos hy, hu]
    simp only [bytes_app, List.append_assoc]
    rfl
  · obtain ⟨u, rfl⟩ : ∃ u : Nat, y = u := ⟨y.toNat, by omega⟩
    refine ⟨u, v, w, by rw [if_neg hy], rfl, rfl, by omega, by omega, by omega, ?_⟩
    rw [if_neg hy, if_neg hy]
    simp only [bytes_app, List.append_assoc]
    rfl
def okD (c : Int) (s : ByteArray) (o : Int × Bool) : Prop := o = (0, false) ∨ ∃ y m d, dateB y m d = true ∧ dateTxt y m d = s ∧ o = dayOfV c y m d
def cmD (c : Int) (s : ByteArray) (o : Int × Bool) : Prop := ∀ y m d, dateB y m d = true → dateTxt y m d = s → o = dayOfV c y m d
theorem txt_eq (t s : ByteArray) : (t.toList = s.toList) ↔ t = s := by
  rw [toList_iff]; exact ⟨bytesOf_inj, fun h => by rw [h]⟩
theorem date_of {y m d : Int} {s : ByteArray} (h : dateTxt y m d = s) (hs : 1 ≤ s.size) : dateB y m d = true := by
  cases hb : dateB y m d
  · exfalso
    unfold dateTxt at h
    rw [hb] at h
    simp only [Bool.false_eq_true, if_false] at h
    rw [← h] at hs
    exact absurd hs (by decide)
  · rfl
theorem sg_le (y : Int) : (sgL y).length ≤ 1 := by unfold sgL; split <;> simp
theorem date_size {y m d : Int} {s : ByteArray} (h : dateB y m d = true) (e : dateTxt y m d = s) : 10 ≤ s.size ∧ s.size ≤ 11 := by
  obtain ⟨u, v, w, _, _, _, hu, hv, hw, hL⟩ := bytes_date y m d h
  rw [e] at hL
  have hz := bytesOf_length s
  rw [hL] at hz
  have := sg_le y
  simp only [List.length_append, List.length_cons, padL_len u 4 (nDig9 u hu), padL_len v 2 (by have := nDig2 v (by omega); omega), padL_len w 2 (by have := nDig2 w (by omega); omega)] at hz
  omega
theorem drop_cons {s : ByteArray} {i : Nat} {x : Int} {R : List Int} (h : (bytesOf s).drop i = x :: R) : i < s.size ∧ bt s (i : Int) = x ∧ (bytesOf s).drop (i + 1) = R := by
  have hl : i < (bytesOf s).length := by
    rcases Nat.lt_or_ge i (bytesOf s).length with h' | h'
    · exact h'
    · rw [List.drop_eq_nil_of_le h'] at h; cases h
  rw [List.drop_eq_getElem_cons hl, at_bt s i hl] at h
  injection h with h1 h2
  rw [bytesOf_length] at hl
  exact ⟨hl, h1, h2⟩
theorem date_parts {y m d : Int} {s : ByteArray} (h : dateB y m d = true) (e : dateTxt y m d = s) : ∃ u v w : Nat, (y = if y < 0 then -(u : Int) else u) ∧ m = v ∧ d = w ∧ u ≤ 9999 ∧ v ≤ 12 ∧ w ≤ 31 ∧
    (bytesOf s).take (s.size - 6) = sgL y ++ padL u 4 ∧ ((bytesOf s).drop (s.size - 5)).take 2 = padL v 2 ∧ (bytesOf s).drop (s.size - 2) = padL w 2 ∧ bt s ((s.size - 3 : Nat) : Int) = 45 ∧ bt s ((s.size - 6 : Nat) : Int) = 45 := by
  obtain ⟨u, v, w, h1, h2, h3, hu, hv, hw, hL⟩ := bytes_date y m d h
  rw [e] at hL
  have hz := bytesOf_length s
  have lu := padL_len u 4 (nDig9 u hu)
  have lv := padL_len v 2 (nDig2 v (by omega))
  have lw := padL_len w 2 (nDig2 w (by omega))
  have hz2 : s.size = (sgL y ++ padL u 4).length + 6 := by
    rw [← hz, hL]
    simp only [List.length_append, List.length_cons, lu, lv, lw]
  have d6 : (bytesOf s).drop (s.size - 6) = 45 :: (padL v 2 ++ 45 :: padL w 2) := by
    rw [hL, ← List.append_assoc, show s.size - 6 = (sgL y ++ padL u 4).length from by omega, List.drop_left]
  have d5 := (drop_cons d6).2.2
  have d3 : (bytesOf s).drop (s.size - 3) = 45 :: padL w 2 := by
    rw [show s.size - 3 = (s.size - 6 + 1) + (padL v 2).length from by omega, ← List.drop_drop, d5, List.drop_left]
  refine ⟨u, v, w, h1, h2, h3, hu, hv, hw, ?_, ?_, ?_, (drop_cons d3).2.1, (drop_cons d6).2.1⟩
  · rw [hL, ← List.append_assoc, show s.size - 6 = (sgL y ++ padL u 4).length from by omega, List.take_left]
  · rw [show s.size - 5 = s.size - 6 + 1 from by omega, d5]
    have h9 : (padL (v : Int) 2 ++ 45 :: padL (w : Int) 2).take (padL (v : Int) 2).length = padL (v : Int) 2 := List.take_left
    rw [lv] at h9; exact h9
  · rw [show s.size - 2 = s.size - 3 + 1 from by omega]; exact (drop_cons d3).2.2
def rdO (c : Int) (s : ByteArray) (y m d : Int) : Int × Bool := if dateTxt y m d = s then dayOfV c y m d else (0, false)
theorem rdO_ok (c : Int) (s : ByteArray) (y m d : Int) (hs : 1 ≤ s.size) : okD c s (rdO c s y m d) := by
  unfold rdO
  by_cases h : dateTxt y m d = s
  · rw [if_pos h]; exact .inr ⟨y, m, d, date_of h hs, h, rfl⟩
  · rw [if_neg h]; exact .inl rfl
theorem rdO_cm (c : Int) (s : ByteArray) (y m d : Int) (h : ∀ y' m' d', dateB y' m' d' = true → dateTxt y' m' d' = s → y = y' ∧ m = m' ∧ d = d') : cmD c s (rdO c s y m d) := by
  intro y' m' d' h1 h2
  obtain ⟨rfl, rfl, rfl⟩ := h y' m' d' h1 h2
  unfold rdO; rw [if_pos h2]
theorem spec_j2 (c : Int) (s : ByteArray) (y m d : Int) (k : Nat) (hk : 40 ≤ k) : spec_ReadDate.j2 (k + 1) c s y m d = some (rdO c s y m d) := by
  simp only [spec_ReadDate.j2]
  rw [specDateText_is y m d k (by omega)]
  simp only [Option.bind_some, txt_eq]
  unfold rdO
  by_cases h : dateTxt y m d = s
  · rw [if_pos h, if_pos h, specDayOfK c y m d k (by omega)]; rfl
  · rw [if_neg h, if_neg h]
theorem tail_all (s : ByteArray) (i : Nat) (h : i ≤ s.size) : bytesOf (s.extract i s.size) = (bytesOf s).drop i := by
  rw [ext_list]
  exact List.take_of_length_le (by rw [List.length_drop, bytesOf_length]; omega)
theorem spec_j1 (c : Int) (s Y : ByteArray) (neg : Bool) (h10 : 10 ≤ s.size) (hs : s.size ≤ 1048576) (k : Nat) (hk : 60 ≤ k) :
    spec_ReadDate.j1 (k + 1) c s (s.size : Int) Y neg = some (rdO c s (if neg = true then wrap64 (-(l2L (bytesOf Y))) else l2L (bytesOf Y)) (l2L (((bytesOf s).drop (s.size - 5)).take 2)) (l2L ((bytesOf s).drop (s.size - 2)))) := by
  obtain ⟨q, rfl⟩ : ∃ q, k = q + 10 := ⟨k - 10, by omega⟩
  simp only [spec_ReadDate.j1]
  rw [wrap_id (x := (s.size : Int) - 5) (by omega) (by omega), wrap_id (x := (s.size : Int) - 3) (by omega) (by omega), wrap_id (x := (s.size : Int) - 2) (by omega) (by omega), l2_is q Y]
  simp only [Option.bind_some]
  rw [if_pos (by omega), if_pos (by omega), if_pos (by omega), l2_is q]
  simp only [Option.bind_some]
  rw [if_pos (by omega), if_pos (by omega), l2_is q]
  simp only [Option.bind_some]
  have e1 : bytesOf (s.extract ((s.size : Int) - 5).toNat ((s.size : Int) - 3).toNat) = ((bytesOf s).drop (s.size - 5)).take 2 := by
    rw [ext_list, show ((s.size : Int) - 5).toNat = s.size - 5 from by omega, show ((s.size : Int) - 3).toNat - (s.size - 5) = 2 from by omega]
  have e2 : bytesOf (s.extract ((s.size : Int) - 2).toNat s.size) = (bytesOf s).drop (s.size - 2) := by
    rw [show ((s.size : Int) - 2).toNat = s.size - 2 from by omega, tail_all s _ (by omega)]
  rw [e1, e2]
  cases neg
  · simp only [Bool.false_eq_true, if_false]
    exact spec_j2 c s _ _ _ (q + 9) (by omega)
  · simp only [if_true]
    exact spec_j2 c s _ _ _ (q + 9) (by omega)
theorem bt_head (Y : ByteArray) (x : Int) (R : List Int) (h : bytesOf Y = x :: R) : 0 < Y.size ∧ bt Y 0 = x ∧ (bytesOf Y).drop 1 = R := drop_cons (s := Y) (i := 0) (by simpa using h)
theorem head_of (Y : ByteArray) (h : 0 < Y.size) : ∃ R, bytesOf Y = bt Y 0 :: R := by
  cases hb : bytesOf Y with
  | nil => have := bytesOf_length Y; rw [hb] at this; simp at this; omega
  | cons x R => rw [(bt_head Y x R hb).2.1]; exact ⟨R, rfl⟩
theorem specReadD (c : Int) (s : ByteArray) (hs : s.size ≤ 1048576) (K : Nat) (hK : 80 ≤ K) : ∃ o, spec_ReadDate.f K c s = some o ∧ okD c s o ∧ cmD c s o := by
  obtain ⟨k, rfl⟩ : ∃ k, K = k + 1 + 1 := ⟨K - 2, by omega⟩
  unfold spec_ReadDate.f
  have hbad : spec_ReadDate.j0 (k + 1 + 1) c s (s.size : Int) true = some (0, false) := by simp only [spec_ReadDate.j0, if_true]
  by_cases h10 : s.size < 10
  · rw [if_pos (by omega), hbad]
    exact ⟨_, rfl, .inl rfl, fun y m d h e => by have := date_size h e; omega⟩
  rw [if_neg (by omega), wrap_id (x := (s.size : Int) - 3) (by omega) (by omega), wrap_id (x := (s.size : Int) - 6) (by omega) (by omega), if_pos (by omega), if_pos (by omega)]
  have i3 : (s.size : Int) - 3 = ((s.size - 3 : Nat) : Int) := by omega
  have i6 : (s.size : Int) - 6 = ((s.size - 6 : Nat) : Int) := by omega
  by_cases h3 : bt s ((s.size : Int) - 3) = 45
  case neg =>
    rw [if_neg h3, hbad]
    refine ⟨_, rfl, .inl rfl, fun y m d h e => ?_⟩
    obtain ⟨_, _, _, _, _, _, _, _, _, _, _, _, b3, _⟩ := date_parts h e
    rw [i3] at h3; exact absurd b3 h3
  rw [if_pos h3, if_pos (by omega), if_pos (by omega)]
  cases h6 : (bt s ((s.size : Int) - 6) != 45)
  case true =>
    rw [hbad]
    refine ⟨_, rfl, .inl rfl, fun y m d h e => ?_⟩
    obtain ⟨_, _, _, _, _, _, _, _, _, _, _, _, _, b6⟩ := date_parts h e
    rw [i6, b6] at h6; exact absurd h6 (by decide)
  simp only [spec_ReadDate.j0, Bool.false_eq_true, if_false]
  rw [wrap_id (x := (s.size : Int) - 6) (by omega) (by omega), if_pos (by omega), if_pos (by omega)]
  obtain ⟨Y, hY⟩ : ∃ Y, Y = s.extract 0 ((s.size : Int) - 6).toNat := ⟨_, rfl⟩
  have hYb : bytesOf Y = (bytesOf s).take (s.size - 6) := by
    rw [hY, ext_list, List.drop_zero, show ((s.size : Int) - 6).toNat - 0 = s.size - 6 from by omega]
  have hYs : Y.size = s.size - 6 := by rw [hY, ByteArray.size_extract]; omega
  rw [← hY, if_pos (by omega)]
  obtain ⟨R, hR⟩ := head_of Y (by omega)
  by_cases h45 : bt Y 0 = 45
  · rw [if_pos h45, if_pos (by omega), h45]
    simp only [beq_self_eq_true]
    rw [spec_j1 c s _ true (by omega) hs k (by omega), tail_all Y 1 (by omega)]
    simp only [if_true]
    refine ⟨_, rfl, rdO_ok _ _ _ _ _ (by omega), rdO_cm _ _ _ _ _ fun y m d h e => ?_⟩
    obtain ⟨u, v, w, p1, p2, p3, hu, hv, hw, t6, t5, t2, _, _⟩ := date_parts h e
    rw [t5, t2, l2L_pad v 2 (nDig2 v (by omega)) (by omega) (by omega), l2L_pad w 2 (nDig2 w (by omega)) (by omega) (by omega), hYb, t6]
    refine ⟨?_, p2.symm, p3.symm⟩
    by_cases hy : y < 0
    · unfold sgL
      rw [if_pos hy] at p1 ⊢
      show wrap64 (-(l2L (padL u 4))) = y
      rw [l2L_pad u 4 (nDig9 u hu) (by omega) (by omega), wrap_id (by omega) (by omega)]; omega
    · exfalso
      unfold sgL at t6
      rw [if_neg hy, List.nil_append] at t6
      rw [← hYb, hR, h45] at t6
      have := padL_D u 4 45 (by rw [← t6]; simp)
      exact absurd this (by decide)
  · rw [if_neg h45, show (bt Y 0 == 45) = false from by simpa using h45, spec_j1 c s _ false (by omega) hs k (by omega)]
    simp only [Bool.false_eq_true, if_false]
    refine ⟨_, rfl, rdO_ok _ _ _ _ _ (by omega), rdO_cm _ _ _ _ _ fun y m d h e => ?_⟩
    obtain ⟨u, v, w, p1, p2, p3, hu, hv, hw, t6, t5, t2, _, _⟩ := date_parts h e
    rw [t5, t2, l2L_pad v 2 (nDig2 v (by omega)) (by omega) (by omega), l2L_pad w 2 (nDig2 w (by omega)) (by omega) (by omega), hYb, t6]
    refine ⟨?_, p2.symm, p3.symm⟩
    by_cases hy : y < 0
    · exfalso
      unfold sgL at t6
      rw [if_pos hy, ← hYb, hR] at t6
      injection t6 with t6 _
      exact h45 t6
    · unfold sgL
      rw [if_neg hy] at p1 ⊢
      show l2L (padL u 4) = y
      rw [l2L_pad u 4 (nDig9 u hu) (by omega) (by omega)]; omega
theorem atoi_some (z : ByteArray) (h : z.size ≤ 1000) : ∃ v e, strconv_Atoi.f z = some (v, e) := by
  unfold strconv_Atoi.f
  rw [if_pos (by omega)]
  exact ⟨_, _, rfl⟩
theorem implReadD (c : Int) (s : ByteArray) (K : Nat) (hK : 80 ≤ K) : ∃ o, impl_ReadDate.f K c s = some o ∧ okD c s o ∧ cmD c s o := by
  obtain ⟨k, rfl⟩ : ∃ k, K = k + 1 := ⟨K - 1, by omega⟩
  unfold impl_ReadDate.f
  have hbad : impl_ReadDate.j0 (k + 1) c s (s.size : Int) true = some (0, false) := by simp only [impl_ReadDate.j0, if_true]
  by_cases h10 : s.size < 10
  · rw [if_pos (by omega), hbad]
    exact ⟨_, rfl, .inl rfl, fun y m d h e => by have := date_size h e; omega⟩
  rw [if_neg (by omega)]
  by_cases h11 : s.size > 11
  · rw [decide_eq_true (by omega), hbad]
    exact ⟨_, rfl, .inl rfl, fun y m d h e => by have := date_size h e; omega⟩
  rw [decide_eq_false (by omega)]
  simp only [impl_ReadDate.j0, Bool.false_eq_true, if_false]
  rw [wrap_id (x := (s.size : Int) - 6) (by omega) (by omega), wrap_id (x := (s.size : Int) - 5) (by omega) (by omega), wrap_id (x := (s.size : Int) - 3) (by omega) (by omega), wrap_id (x := (s.size : Int) - 2) (by omega) (by omega), if_pos (by omega), if_pos (by omega)]
  obtain ⟨Y, hY⟩ : ∃ Y, Y = s.extract 0 ((s.size : Int) - 6).toNat := ⟨_, rfl⟩
  obtain ⟨M, hM⟩ : ∃ Y, Y = s.extract ((s.size : Int) - 5).toNat ((s.size : Int) - 3).toNat := ⟨_, rfl⟩
  obtain ⟨D, hD⟩ : ∃ Y, Y = s.extract ((s.size : Int) - 2).toNat s.size := ⟨_, rfl⟩
  have hYb : bytesOf Y = (bytesOf s).take (s.size - 6) := by
    rw [hY, ext_list, List.drop_zero, show ((s.size : Int) - 6).toNat - 0 = s.size - 6 from by omega]
  have hMb : bytesOf M = ((bytesOf s).drop (s.size - 5)).take 2 := by
    rw [hM, ext_list, show ((s.size : Int) - 5).toNat = s.size - 5 from by omega, show ((s.size : Int) - 3).toNat - (s.size - 5) = 2 from by omega]
  have hDb : bytesOf D = (bytesOf s).drop (s.size - 2) := by
    rw [hD, show ((s.size : Int) - 2).toNat = s.size - 2 from by omega, tail_all s _ (by omega)]
  rw [← hY, ← hM, ← hD]
  obtain ⟨yv, ye, h1⟩ := atoi_some Y (by rw [hY, ByteArray.size_extract]; omega)
  obtain ⟨mv, me, h2⟩ := atoi_some M (by rw [hM, ByteArray.size_extract]; omega)
  obtain ⟨dv, de, h3⟩ := atoi_some D (by rw [hD, ByteArray.size_extract]; omega)
  have key : ∀ y m d, dateB y m d = true → dateTxt y m d = s → yv = y ∧ mv = m ∧ dv = d ∧ ye.isNone = true ∧ me.isNone = true ∧ de.isNone = true := by
    intro y m d h e
    obtain ⟨u, v, w, p1, p2, p3, hu, hv, hw, t6, t5, t2, _, _⟩ := date_parts h e
    have lu := padL_len u 4 (nDig9 u hu)
    have lv := padL_len v 2 (nDig2 v (by omega))
    have lw := padL_len w 2 (nDig2 w (by omega))
    have q2 := (atoi_D M (padL v 2) (by rw [hMb, t5]) (padL_D v 2) (by intro h; rw [h] at lv; simp at lv) (by omega)).1
    have q3 := (atoi_D D (padL w 2) (by rw [hDb, t2]) (padL_D w 2) (by intro h; rw [h] at lw; simp at lw) (by omega)).1
    have q1 : strconv_Atoi.f Y = some (y, none) := by
      by_cases hy : y < 0
      · unfold sgL at t6
        rw [if_pos hy] at p1 t6
        rw [atoi_neg Y (padL u 4) (by rw [hYb, t6]; rfl) (padL_D u 4) (by intro h; rw [h] at lu; simp at lu) (by omega), l2go_pad]
        congr 2; omega
      · unfold sgL at t6
        rw [if_neg hy] at p1 t6
        rw [(atoi_D Y (padL u 4) (by rw [hYb, t6]; rfl) (padL_D u 4) (by intro h; rw [h] at lu; simp at lu) (by omega)).1, l2go_pad]
        congr 2; omega
    rw [l2go_pad] at q2 q3
    rw [h1] at q1; rw [h2] at q2; rw [h3] at q3
    simp only [Option.some.injEq, Prod.mk.injEq] at q1 q2 q3
    refine ⟨q1.1, by rw [q2.1, p2], by rw [q3.1, p3], by rw [q1.2]; rfl, by rw [q2.2]; rfl, by rw [q3.2]; rfl⟩
  rw [h1, h2, h3]
  simp only [Option.bind_some]
  rw [if_pos (by omega), if_pos (by omega), if_pos (by omega), if_pos (by omega), if_pos (by omega)]
  by_cases n1 : ye.isNone = true
  case neg => rw [if_neg n1]; exact ⟨_, rfl, .inl rfl, fun y m d h e => absurd (key y m d h e).2.2.2.1 n1⟩
  by_cases n2 : me.isNone = true
  case neg => rw [if_pos n1, if_neg n2]; exact ⟨_, rfl, .inl rfl, fun y m d h e => absurd (key y m d h e).2.2.2.2.1 n2⟩
  by_cases n3 : de.isNone = true
  case neg => rw [if_pos n1, if_pos n2, if_neg n3]; exact ⟨_, rfl, .inl rfl, fun y m d h e => absurd (key y m d h e).2.2.2.2.2 n3⟩
  rw [if_pos n1, if_pos n2, if_pos n3, implDateText_is yv mv dv k (by omega)]
  simp only [Option.bind_some, txt_eq]
  refine ⟨rdO c s yv mv dv, ?_, rdO_ok _ _ _ _ _ (by omega), rdO_cm _ _ _ _ _ fun y m d h e => ⟨(key y m d h e).1, (key y m d h e).2.1, (key y m d h e).2.2.1⟩⟩
  unfold rdO
  by_cases h : dateTxt yv mv dv = s
  · rw [if_pos h, if_pos h, implDayOf_is c yv mv dv k (by omega)]; rfl
  · rw [if_neg h, if_neg h]
theorem FnExactReadDate : ∀ (a0 : Int) (a1 : ByteArray), (Lit.int .i64 a0).wf = true → a1.size ≤ maxLen → ∃ k, laws_FnExactReadDate.f k a0 a1 = some true := by
  intro c s _ _
  refine ⟨100, ?_⟩
  unfold laws_FnExactReadDate.f
  by_cases h : (s.size : Int) > 1048576
  · rw [if_pos h]
  · obtain ⟨o1, h1, k1, c1⟩ := specReadD c s (by omega) 100 (by omega)
    obtain ⟨o2, h2, k2, c2⟩ := implReadD c s 100 (by omega)
    have e : o2 = o1 := by
      rcases k1 with k1 | ⟨y, m, d, g, e, k1⟩
      · rcases k2 with k2 | ⟨y, m, d, g, e, k2⟩
        · rw [k1, k2]
        · rw [k2, c1 y m d g e]
      · rw [k1, c2 y m d g e]
    rw [if_neg h, h1, h2, e]
    simp

end Go.Proofs.YtghglglbajnncaaDoor.Pure
