/- The plain law of FnExactColNumber: what the program computes is what the reference computes, for every input (no further condition). -/
import Derived.Test.YtiifamocjcpcoaaPFnExactColNumberx1
namespace Go.Proofs.Ytiifamocjcpcoaa.Pure
open Go.RowKit Go.Proofs.Ytiifamocjcpcoaa.PFnExactColNumber Go.Proofs.YtiifamocjcpcoaaW.PrintWords Go.Proofs.YtiifamocjcpcoaaW.PrintLast

/-! plain facts on whole numbers -/
theorem wrap_id {x : Int} (h1 : -9223372036854775808 ≤ x) (h2 : x ≤ 9223372036854775807) : wrap64 x = x := by
  unfold wrap64; omega
theorem td_pos {a b : Int} (h : 0 ≤ a) : a.tdiv b = a / b := Int.tdiv_eq_ediv_of_nonneg h
theorem td_neg {a b : Int} (h : a ≤ 0) : a.tdiv b = -((-a) / b) := by
  rw [← Int.tdiv_eq_ediv_of_nonneg (by omega : 0 ≤ -a), Int.neg_tdiv]; omega
theorem tm_pos {a b : Int} (h : 0 ≤ a) : a.tmod b = a % b := Int.tmod_eq_emod_of_nonneg h
theorem tm_neg {a b : Int} (h : a ≤ 0) : a.tmod b = -((-a) % b) := by
  rw [← Int.tmod_eq_emod_of_nonneg (by omega : 0 ≤ -a), Int.neg_tmod]; omega
theorem tm_zero (a b : Int) : a.tmod b = 0 ↔ a % b = 0 := by
  rw [← Int.dvd_iff_tmod_eq_zero, ← Int.dvd_iff_emod_eq_zero]
theorem ediv_is {a b q r : Int} (hb : 0 < b) (h : a = b * q + r) (h0 : 0 ≤ r) (h1 : r < b) : a / b = q := by
  rw [h, Int.add_comm, Int.add_mul_ediv_left _ _ (by omega), Int.ediv_eq_zero_of_lt h0 h1]; omega
theorem ediv_neg_of {a b : Int} (hb : 0 < b) (h : a.tmod b = 0) : a.tdiv b = a / b := by
  have e := Int.mul_tdiv_add_tmod a b
  rw [h] at e
  exact (ediv_is hb (q := a.tdiv b) (r := 0) (by omega) (by omega) hb).symm
theorem ediv_floor {a b : Int} (hb : 0 < b) (ha : a < 0) (h : a.tmod b ≠ 0) : a.tdiv b - 1 = a / b := by
  have e := Int.mul_tdiv_add_tmod a b
  have hm := tm_neg (a := a) (b := b) (by omega)
  have h0 := Int.emod_nonneg (-a) (by omega : b ≠ 0)
  have h1 := Int.emod_lt_of_pos (-a) hb
  refine (ediv_is hb (q := a.tdiv b - 1) (r := a.tmod b + b) ?_ (by omega) (by omega)).symm
  rw [Int.mul_sub]; omega
/-- The floor, as both programs reckon it. -/
theorem floor_is {a b : Int} (hb : 0 < b) (h1 : -4611686018427387904 ≤ a) (h2 : a ≤ 4611686018427387904) :
    (if b = 0 then (none) else (if (Int.tmod a b) = 0 then (some (wrap64 (Int.tdiv a b))) else (if ((decide (a < 0)) != (decide (b < 0))) = true then (some (wrap64 ((wrap64 (Int.tdiv a b)) - 1))) else (some (wrap64 (Int.tdiv a b)))))) = some (a / b) := by
  have hle : a / b ≤ 4611686018427387904 := by
    by_cases h : 0 ≤ a
    · exact Int.le_trans (Int.ediv_le_self b h) h2
    · have := Int.ediv_neg_of_neg_of_pos (by omega : a < 0) hb; omega
  have hge : -4611686018427387904 ≤ a / b := by
    by_cases h : 0 ≤ a
    · have := Int.ediv_nonneg h (by omega : 0 ≤ b); omega
    · exact Int.le_ediv_of_mul_le hb (by have : -4611686018427387904 * b ≤ -4611686018427387904 * 1 := by omega
                                         omega)
  rw [if_neg (by omega : ¬ b = 0)]
  by_cases hm : Int.tmod a b = 0
  · rw [if_pos hm, ediv_neg_of hb hm, wrap_id (by omega) (by omega)]
  · rw [if_neg hm]
    by_cases ha : a < 0
    · have e := ediv_floor hb ha hm
      rw [if_pos (by simp [ha]; omega), wrap_id (x := Int.tdiv a b) (by omega) (by omega), e, wrap_id (by omega) (by omega)]
    · rw [if_neg (by simp [ha]; omega), td_pos (by omega), wrap_id (by omega) (by omega)]

/-! plain facts on texts as lists of numbers -/
theorem u8_back (b : UInt8) : UInt8.ofNat ((b.toNat : Int)).toNat = b := by simp
theorem strOfNums_bytesOf (s : ByteArray) : strOfNums (bytesOf s) = s := by
  cases s with | mk d =>
  unfold strOfNums bytesOf
  congr 1
  rw [List.map_map]
  have : ((fun n : Int => UInt8.ofNat n.toNat) ∘ fun b : UInt8 => (b.toNat : Int)) = id := by funext b; exact u8_back b
  rw [this, List.map_id]
def okL (xs : List Int) : Prop := ∀ x ∈ xs, 0 ≤ x ∧ x < 256
theorem bytesOf_strOfNums (xs : List Int) (h : okL xs) : bytesOf (strOfNums xs) = xs := by
  unfold bytesOf
  rw [strOfNums_data, List.map_map]
  conv => rhs; rw [← List.map_id xs]
  refine List.map_congr_left fun x hx => ?_
  have := h x hx
  simp only [Function.comp, UInt8.toNat_ofNat', id]
  omega
theorem okL_bytesOf (s : ByteArray) : okL (bytesOf s) := by
  intro x hx
  obtain ⟨b, _, rfl⟩ := List.mem_map.1 hx
  have := b.toNat_lt
  omega
theorem strOfNums_app (xs ys : List Int) : strOfNums xs ++ strOfNums ys = strOfNums (xs ++ ys) := by
  apply ByteArray.ext
  rw [ByteArray.data_append]
  simp [strOfNums]
theorem bytesOf_inj {s t : ByteArray} (h : bytesOf s = bytesOf t) : s = t := by
  rw [← strOfNums_bytesOf s, ← strOfNums_bytesOf t, h]
theorem toList_iff (s t : ByteArray) : s.toList = t.toList ↔ bytesOf s = bytesOf t := by
  rw [ByteArray.toList_eq, ByteArray.toList_eq]
  constructor
  · intro h; unfold bytesOf; rw [h]
  · intro h; rw [bytesOf_inj h]
theorem bt_of (s : ByteArray) (L : List Int) (h : bytesOf s = L) (i : Int) : bt s i = rd L i := by
  rw [← h, rd_bytesOf]
theorem size_of' (s : ByteArray) (L : List Int) (h : bytesOf s = L) : s.size = L.length := by
  rw [← h, bytesOf_length]

/-- The name of a column, as a list of bytes. -/
def cnL (n : Int) : List Int := if n < 1 then [] else if n > 200 then [] else if n ≤ 26 then [64 + n] else [64 + (n - 1) / 26, 65 + (n - 1) % 26]
theorem cnL_ok (n : Int) : okL (cnL n) := by
  intro x hx
  unfold cnL at hx
  split at hx
  · cases hx
  · split at hx
    · cases hx
    · split at hx
      · simp at hx; omega
      · simp at hx; omega
theorem colName_step (k : Nat) (x : Int) (L : List Int) (h0 : 0 < x) (h1 : x ≤ 200) (hL : L.length ≤ 100) :
    spec_ColName.l0 (k + 1) x (strOfNums L) = spec_ColName.l0 k ((x - 1) / 26) (strOfNums ((65 + (x - 1) % 26) :: L)) := by
  simp only [spec_ColName.l0]
  rw [if_pos h0]
  simp only [Option.bind_some]
  have w : wrap64 (x - 1) = x - 1 := wrap_id (by omega) (by omega)
  rw [w, td_pos (by omega), tm_pos (by omega), wrap_id (x := 65 + (x - 1) % 26) (by omega) (by omega), wrap_id (by omega) (by omega), strOfNums_app, strOfNums_size, strOfNums_size]
  rw [if_pos (by simp; omega), show (65 + (x - 1) % 26) % 256 = 65 + (x - 1) % 26 from by omega]
  rfl
theorem colName_zero (k : Nat) (s : ByteArray) : spec_ColName.l0 (k + 1) 0 s = some s := by
  simp only [spec_ColName.l0]; rw [if_neg (by omega)]
theorem colName_is (k : Nat) (n : Int) : spec_ColName.f (k + 4) n = some (strOfNums (cnL n)) := by
  unfold spec_ColName.f cnL
  by_cases h : n < 1
  · rw [if_pos h, if_pos h]; rfl
  · rw [if_neg h, if_neg h]
    by_cases h2 : n > 200
    · rw [if_pos h2]; simp only [spec_ColName.j0]; rw [if_pos (decide_eq_true h2)]; rfl
    · rw [if_neg h2]
      simp only [spec_ColName.j0]; rw [if_neg (by simp; omega)]
      have e0 : (⟨#[]⟩ : ByteArray) = strOfNums [] := rfl
      rw [e0, colName_step _ _ _ (by omega) (by omega) (by simp)]
      by_cases h3 : n ≤ 26
      · rw [if_pos h3, show (n - 1) / 26 = 0 from by omega, colName_zero, show (n - 1) % 26 = n - 1 from by omega, show 65 + (n - 1) = 64 + n from by omega]
      · rw [if_neg h3, colName_step _ _ _ (by omega) (by omega) (by simp), show ((n - 1) / 26 - 1) / 26 = 0 from by omega, colName_zero, show ((n - 1) / 26 - 1) % 26 = (n - 1) / 26 - 1 from by omega, show 65 + ((n - 1) / 26 - 1) = 64 + (n - 1) / 26 from by omega]

theorem num_step (k : Nat) (s : ByteArray) (n i : Int) (h0 : 0 ≤ i) (h : i < s.size) (h4 : i < 4) (l : 65 ≤ bt s i) (u : bt s i ≤ 90) (n0 : 0 ≤ n) (n1 : n ≤ 1000000) :
    spec_ColNumber.l0 (k + 2) s n i = spec_ColNumber.l0 k s (n * 26 + (bt s i - 64)) (i + 1) := by
  simp only [spec_ColNumber.l0, spec_ColNumber.j1]
  rw [if_pos h, if_pos (decide_eq_true h4), if_pos h0, if_pos h, if_neg (by omega), if_neg (by omega)]
  rw [wrap_id (x := n * 26) (by omega) (by omega), show ((bt s i) - 65) % 256 = bt s i - 65 from by omega, wrap_id (x := n * 26 + (bt s i - 65)) (by omega) (by omega), wrap_id (x := n * 26 + (bt s i - 65) + 1) (by omega) (by omega), wrap_id (x := i + 1) (by omega) (by omega)]
  rw [show n * 26 + (bt s i - 65) + 1 = n * 26 + (bt s i - 64) from by omega]
theorem num_bad (k : Nat) (s : ByteArray) (n i : Int) (h0 : 0 ≤ i) (h : i < s.size) (h4 : i < 4) (l : bt s i < 65 ∨ 90 < bt s i) :
    spec_ColNumber.l0 (k + 2) s n i = some 0 := by
  simp only [spec_ColNumber.l0, spec_ColNumber.j1]
  rw [if_pos h, if_pos (decide_eq_true h4), if_pos h0, if_pos h]
  by_cases l1 : bt s i < 65
  · rw [if_pos l1]
  · rw [if_neg l1, if_pos (by omega)]
theorem num_end (k : Nat) (s : ByteArray) (n i : Int) (h : (s.size : Int) ≤ i ∨ 4 ≤ i) :
    spec_ColNumber.l0 (k + 6) s n i = if cnL n = bytesOf s then some n else some 0 := by
  have e : spec_ColNumber.j1 (k + 5) s n i false = if cnL n = bytesOf s then some n else some 0 := by
    simp only [spec_ColNumber.j1]
    rw [if_neg (by decide), colName_is]
    simp only [Option.bind_some]
    by_cases c : cnL n = bytesOf s
    · rw [if_pos c, if_pos ((toList_iff _ _).2 (by rw [bytesOf_strOfNums _ (cnL_ok n), c]))]
    · rw [if_neg c, if_neg (fun q => c (by rw [← bytesOf_strOfNums _ (cnL_ok n)]; exact (toList_iff _ _).1 q))]
  simp only [spec_ColNumber.l0]
  by_cases c : i < (s.size : Int)
  · rw [if_pos c, decide_eq_false (by omega : ¬ i < 4)]; exact e
  · rw [if_neg c]; exact e
theorem imp_step (k : Nat) (s : ByteArray) (n i : Int) (h0 : 0 ≤ i) (h : i < s.size) (hz : s.size ≤ 3) (l : 65 ≤ bt s i) (u : bt s i ≤ 90) (n0 : 0 ≤ n) (n1 : n ≤ 1000000) :
    impl_ColNumber.l0 (k + 1) s n i = impl_ColNumber.l0 k s (n * 26 + (bt s i - 64)) (i + 1) := by
  simp only [impl_ColNumber.l0]
  rw [if_pos h, if_pos h0, if_neg (by omega), if_neg (by omega)]
  rw [wrap_id (x := n * 26) (by omega) (by omega), show ((bt s i) - 65) % 256 = bt s i - 65 from by omega, wrap_id (x := n * 26 + (bt s i - 65)) (by omega) (by omega), wrap_id (x := n * 26 + (bt s i - 65) + 1) (by omega) (by omega), wrap_id (x := i + 1) (by omega) (by omega)]
  rw [show n * 26 + (bt s i - 65) + 1 = n * 26 + (bt s i - 64) from by omega]
theorem imp_bad (k : Nat) (s : ByteArray) (n i : Int) (h0 : 0 ≤ i) (h : i < s.size) (l : bt s i < 65 ∨ 90 < bt s i) :
    impl_ColNumber.l0 (k + 1) s n i = some 0 := by
  simp only [impl_ColNumber.l0]
  rw [if_pos h, if_pos h0]
  by_cases l1 : bt s i < 65
  · rw [if_pos l1]
  · rw [if_neg l1, if_pos (by omega)]
theorem imp_end (k : Nat) (s : ByteArray) (n i : Int) (h : (s.size : Int) ≤ i) :
    impl_ColNumber.l0 (k + 1) s n i = if n > 200 then some 0 else some n := by
  simp only [impl_ColNumber.l0]
  rw [if_neg (by omega)]
/-- What both tell: the number of a column's name. -/
def numL : List Int → Int
  | [a] => if 65 ≤ a ∧ a ≤ 90 then a - 64 else 0
  | [a, b] => if 65 ≤ a ∧ a ≤ 90 then (if 65 ≤ b ∧ b ≤ 90 then (if 26 * (a - 64) + (b - 64) > 200 then 0 else 26 * (a - 64) + (b - 64)) else 0) else 0
  | _ => 0
theorem rd0 (a : Int) (l : List Int) : rd (a :: l) 0 = a := rfl
theorem rd1 (a b : Int) (l : List Int) : rd (a :: b :: l) 1 = b := rfl
theorem rd2 (a b c : Int) (l : List Int) : rd (a :: b :: c :: l) 2 = c := rfl
theorem rd3 (a b c d : Int) (l : List Int) : rd (a :: b :: c :: d :: l) 3 = d := rfl
theorem specNumber_is (k : Nat) (s : ByteArray) : spec_ColNumber.f (k + 14) s = some (numL (bytesOf s)) := by
  unfold spec_ColNumber.f
  generalize hL : bytesOf s = L
  have hz := size_of' s L hL
  have b0 := bt_of s L hL 0
  have b1 := bt_of s L hL 1
  have b2 := bt_of s L hL 2
  have b3 := bt_of s L hL 3
  match L, hL, hz, b0, b1, b2, b3 with
  | [], hL, hz, b0, b1, b2, b3 =>
    rw [num_end (k + 8) s 0 0 (.inl (by rw [hz]; simp)), hL]
    rfl
  | [a], hL, hz, b0, b1, b2, b3 =>
    rw [rd0] at b0
    by_cases la : 65 ≤ a ∧ a ≤ 90
    · rw [num_step (k + 12) s 0 0 (by omega) (by rw [hz]; simp) (by omega) (by omega) (by omega) (by omega) (by omega), num_end (k + 6) s _ _ (.inl (by rw [hz]; simp)), hL, b0]
      have e : cnL (0 * 26 + (a - 64)) = [a] := by
        unfold cnL; rw [if_neg (by omega), if_neg (by omega), if_pos (by omega)]; congr 1; omega
      rw [if_pos e]; show some _ = some (if 65 ≤ a ∧ a ≤ 90 then a - 64 else 0); rw [if_pos la]; congr 1; omega
    · rw [num_bad (k + 12) s 0 0 (by omega) (by rw [hz]; simp) (by omega) (by omega)]
      show some _ = some (if 65 ≤ a ∧ a ≤ 90 then a - 64 else 0); rw [if_neg la]
  | [a, b], hL, hz, b0, b1, b2, b3 =>
    rw [rd0] at b0; rw [rd1] at b1
    show _ = some (if 65 ≤ a ∧ a ≤ 90 then (if 65 ≤ b ∧ b ≤ 90 then (if 26 * (a - 64) + (b - 64) > 200 then 0 else 26 * (a - 64) + (b - 64)) else 0) else 0)
    by_cases la : 65 ≤ a ∧ a ≤ 90
    · rw [num_step (k + 12) s 0 0 (by omega) (by rw [hz]; simp) (by omega) (by omega) (by omega) (by omega) (by omega), if_pos la, b0]
      by_cases lb : 65 ≤ b ∧ b ≤ 90
      · rw [num_step (k + 10) s _ (0 + 1) (by omega) (by rw [hz]; simp) (by omega) (by rw [show (0 : Int) + 1 = 1 from rfl]; omega) (by rw [show (0 : Int) + 1 = 1 from rfl]; omega) (by omega) (by omega), num_end (k + 4) s _ _ (.inl (by rw [hz]; simp)), hL, if_pos lb, show (0 : Int) + 1 = 1 from rfl, b1]
        by_cases g : 26 * (a - 64) + (b - 64) > 200
        · rw [if_pos g, if_neg]
          unfold cnL; rw [if_neg (by omega), if_pos (by omega)]; simp
        · have e : cnL ((0 * 26 + (a - 64)) * 26 + (b - 64)) = [a, b] := by
            unfold cnL; rw [if_neg (by omega), if_neg (by omega), if_neg (by omega)]; congr 1
            · omega
            · congr 1; omega
          rw [if_neg g, if_pos e]; congr 1; omega
      · rw [num_bad (k + 10) s _ (0 + 1) (by omega) (by rw [hz]; simp) (by omega) (by rw [show (0 : Int) + 1 = 1 from rfl]; omega), if_neg lb]
    · rw [num_bad (k + 12) s 0 0 (by omega) (by rw [hz]; simp) (by omega) (by omega), if_neg la]
  | a :: b :: c :: l, hL, hz, b0, b1, b2, b3 =>
    rw [rd0] at b0; rw [rd1] at b1; rw [rd2] at b2
    show _ = some 0
    simp only [List.length_cons] at hz
    by_cases la : 65 ≤ a ∧ a ≤ 90
    · rw [num_step (k + 12) s 0 0 (by omega) (by omega) (by omega) (by omega) (by omega) (by omega) (by omega), b0]
      by_cases lb : 65 ≤ b ∧ b ≤ 90
      · rw [show (0 : Int) + 1 = 1 from rfl, num_step (k + 10) s _ 1 (by omega) (by omega) (by omega) (by omega) (by omega) (by omega) (by omega), b1]
        by_cases lc : 65 ≤ c ∧ c ≤ 90
        · rw [show (1 : Int) + 1 = 2 from rfl, num_step (k + 8) s _ 2 (by omega) (by omega) (by omega) (by omega) (by omega) (by omega) (by omega), b2]
          rw [show (2 : Int) + 1 = 3 from rfl]
          have far : ∀ m : Int, 703 ≤ m → cnL m ≠ bytesOf s := by
            intro m hm; rw [hL]; unfold cnL; rw [if_neg (by omega), if_pos (by omega)]; simp
          by_cases h4 : l.length = 0
          · rw [num_end (k + 2) s _ 3 (.inl (by omega)), if_neg (far _ (by omega))]
          · by_cases ld : 65 ≤ bt s 3 ∧ bt s 3 ≤ 90
            · rw [num_step (k + 6) s _ 3 (by omega) (by omega) (by omega) (by omega) (by omega) (by omega) (by omega), num_end k s _ (3 + 1) (.inr (by omega)), if_neg (far _ (by omega))]
            · rw [num_bad (k + 6) s _ 3 (by omega) (by omega) (by omega) (by omega)]
        · rw [show (1 : Int) + 1 = 2 from rfl, num_bad (k + 8) s _ 2 (by omega) (by omega) (by omega) (by omega)]
      · rw [show (0 : Int) + 1 = 1 from rfl, num_bad (k + 10) s _ 1 (by omega) (by omega) (by omega) (by omega)]
    · rw [num_bad (k + 12) s 0 0 (by omega) (by omega) (by omega) (by omega)]
theorem implNumber_is (k : Nat) (s : ByteArray) : impl_ColNumber.f (k + 5) s = some (numL (bytesOf s)) := by
  unfold impl_ColNumber.f
  generalize hL : bytesOf s = L
  have hz := size_of' s L hL
  have b0 := bt_of s L hL 0
  have b1 := bt_of s L hL 1
  have b2 := bt_of s L hL 2
  match L, hL, hz, b0, b1, b2 with
  | [], hL, hz, b0, b1, b2 =>
    rw [if_pos (by rw [hz]; simp)]; rfl
  | [a], hL, hz, b0, b1, b2 =>
    rw [rd0] at b0
    simp only [List.length_cons, List.length_nil] at hz
    rw [if_neg (by omega), decide_eq_false (by omega)]
    simp only [impl_ColNumber.j0]; rw [if_neg (by decide)]
    show _ = some (if 65 ≤ a ∧ a ≤ 90 then a - 64 else 0)
    by_cases la : 65 ≤ a ∧ a ≤ 90
    · rw [imp_step (k + 3) s 0 0 (by omega) (by omega) (by omega) (by omega) (by omega) (by omega) (by omega), imp_end _ _ _ _ (by omega), if_neg (by omega), if_pos la]; congr 1; omega
    · rw [imp_bad (k + 3) s 0 0 (by omega) (by omega) (by omega), if_neg la]
  | [a, b], hL, hz, b0, b1, b2 =>
    rw [rd0] at b0; rw [rd1] at b1
    simp only [List.length_cons, List.length_nil] at hz
    rw [if_neg (by omega), decide_eq_false (by omega)]
    simp only [impl_ColNumber.j0]; rw [if_neg (by decide)]
    show _ = some (if 65 ≤ a ∧ a ≤ 90 then (if 65 ≤ b ∧ b ≤ 90 then (if 26 * (a - 64) + (b - 64) > 200 then 0 else 26 * (a - 64) + (b - 64)) else 0) else 0)
    by_cases la : 65 ≤ a ∧ a ≤ 90
    · rw [imp_step (k + 3) s 0 0 (by omega) (by omega) (by omega) (by omega) (by omega) (by omega) (by omega), if_pos la, show (0 : Int) + 1 = 1 from rfl]
      by_cases lb : 65 ≤ b ∧ b ≤ 90
      · rw [imp_step (k + 2) s _ 1 (by omega) (by omega) (by omega) (by omega) (by omega) (by omega) (by omega), imp_end _ _ _ _ (by omega), if_pos lb, b0, b1]
        by_cases g : 26 * (a - 64) + (b - 64) > 200
        · rw [if_pos g, if_pos (by omega)]
        · rw [if_neg g, if_neg (by omega)]; congr 1; omega
      · rw [imp_bad (k + 2) s _ 1 (by omega) (by omega) (by omega), if_neg lb]
    · rw [imp_bad (k + 3) s 0 0 (by omega) (by omega) (by omega), if_neg la]
  | a :: b :: c :: l, hL, hz, b0, b1, b2 =>
    rw [rd0] at b0; rw [rd1] at b1; rw [rd2] at b2
    simp only [List.length_cons] at hz
    show _ = some 0
    rw [if_neg (by omega)]
    by_cases h4 : (s.size : Int) > 3
    · rw [decide_eq_true h4]; rfl
    rw [decide_eq_false h4]
    simp only [impl_ColNumber.j0]; rw [if_neg (by decide)]
    by_cases la : 65 ≤ a ∧ a ≤ 90
    · rw [imp_step (k + 3) s 0 0 (by omega) (by omega) (by omega) (by omega) (by omega) (by omega) (by omega), show (0 : Int) + 1 = 1 from rfl]
      by_cases lb : 65 ≤ b ∧ b ≤ 90
      · rw [imp_step (k + 2) s _ 1 (by omega) (by omega) (by omega) (by omega) (by omega) (by omega) (by omega), show (1 : Int) + 1 = 2 from rfl]
        by_cases lc : 65 ≤ c ∧ c ≤ 90
        · rw [imp_step (k + 1) s _ 2 (by omega) (by omega) (by omega) (by omega) (by omega) (by omega) (by omega), imp_end _ _ _ _ (by omega), if_pos (by omega)]
        · rw [imp_bad (k + 1) s _ 2 (by omega) (by omega) (by omega)]
      · rw [imp_bad (k + 2) s _ 1 (by omega) (by omega) (by omega)]
    · rw [imp_bad (k + 3) s 0 0 (by omega) (by omega) (by omega)]

theorem FnExactColNumber : laws_FnExactColNumber.Pure := by
  intro s _
  refine ⟨14, ?_⟩
  unfold laws_FnExactColNumber.f
  rw [specNumber_is 0, implNumber_is 9]
  split <;> simp

end Go.Proofs.Ytiifamocjcpcoaa.Pure
