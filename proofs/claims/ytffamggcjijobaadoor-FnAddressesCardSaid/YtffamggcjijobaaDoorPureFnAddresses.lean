/- The plain law of FnAddresses: what the program computes is what the reference computes, for every input (no further condition). -/
import Derived.Test.YtffamggcjijobaaDoorMFnAddressesa12
import Derived.Test.YtffamggcjijobaaDoorRFnAddresses
namespace Go.Proofs.YtffamggcjijobaaDoor.Pure
open Go.RowKit Go.Proofs.YtffamggcjijobaaDoor.PFnAddresses Go.Proofs.YtffamggcjijobaaDoorW.PrintWords Go.Proofs.YtffamggcjijobaaDoorW.PrintLast

set_option linter.unusedVariables false
set_option linter.unusedSimpArgs false
/-! plain facts on whole numbers -/
theorem wrap_id {x : Int} (h1 : -9223372036854775808 ≤ x) (h2 : x ≤ 9223372036854775807) : wrap64 x = x := by
  unfold wrap64; omega
theorem td_pos {a b : Int} (h : 0 ≤ a) : a.tdiv b = a / b := Int.tdiv_eq_ediv_of_nonneg h
theorem td_neg {a b : Int} (h : a ≤ 0) : a.tdiv b = -((-a) / b) := by
  rw [← Int.tdiv_eq_ediv_of_nonneg (by omega : 0 ≤ -a), Int.neg_tdiv]; omega
theorem tm_pos {a b : Int} (h : 0 ≤ a) : a.tmod b = a % b := Int.tmod_eq_emod_of_nonneg h
theorem tm_neg {a b : Int} (h : a ≤ 0) : a.tmod b = -((-a) % b) := by
  rw [← Int.tmod_eq_emod_of_nonneg (by omega : 0 ≤ -a), Int.neg_tmod]; omega
theorem tm_zero (a b : Int) : a.tmod b = 0 ↔ a % b = 0 := by
  rw [← Int.dvd_iff_tmod_eq_zero, ← Int.dvd_iff_emod_eq_zero]
theorem ediv_is {a b q r : Int} (hb : 0 < b) (h : a = b * q + r) (h0 : 0 ≤ r) (h1 : r < b) : a / b = q := by
  rw [h, Int.add_comm, Int.add_mul_ediv_left _ _ (by omega), Int.ediv_eq_zero_of_lt h0 h1]; omega
theorem ediv_neg_of {a b : Int} (hb : 0 < b) (h : a.tmod b = 0) : a.tdiv b = a / b := by
  have e := Int.mul_tdiv_add_tmod a b
  rw [h] at e
  exact (ediv_is hb (q := a.tdiv b) (r := 0) (by omega) (by omega) hb).symm
theorem ediv_floor {a b : Int} (hb : 0 < b) (ha : a < 0) (h : a.tmod b ≠ 0) : a.tdiv b - 1 = a / b := by
  have e := Int.mul_tdiv_add_tmod a b
  have hm := tm_neg (a := a) (b := b) (by omega)
  have h0 := Int.emod_nonneg (-a) (by omega : b ≠ 0)
  have h1 := Int.emod_lt_of_pos (-a) hb
  refine (ediv_is hb (q := a.tdiv b - 1) (r := a.tmod b + b) ?_ (by omega) (by omega)).symm
  rw [Int.mul_sub]; omega
/-- The floor, as both programs reckon it. -/
theorem floor_is {a b : Int} (hb : 0 < b) (h1 : -4611686018427387904 ≤ a) (h2 : a ≤ 4611686018427387904) :
    (if b = 0 then (none) else (if (Int.tmod a b) = 0 then (some (wrap64 (Int.tdiv a b))) else (if ((decide (a < 0)) != (decide (b < 0))) = true then (some (wrap64 ((wrap64 (Int.tdiv a b)) - 1))) else (some (wrap64 (Int.tdiv a b)))))) = some (a / b) := by
  have hle : a / b ≤ 4611686018427387904 := by
    by_cases h : 0 ≤ a
    · exact Int.le_trans (Int.ediv_le_self b h) h2
    · have := Int.ediv_neg_of_neg_of_pos (by omega : a < 0) hb; omega
  have hge : -4611686018427387904 ≤ a / b := by
    by_cases h : 0 ≤ a
    · have := Int.ediv_nonneg h (by omega : 0 ≤ b); omega
    · exact Int.le_ediv_of_mul_le hb (by have : -4611686018427387904 * b ≤ -4611686018427387904 * 1 := by omega
                                         omega)
  rw [if_neg (by omega : ¬ b = 0)]
  by_cases hm : Int.tmod a b = 0
  · rw [if_pos hm, ediv_neg_of hb hm, wrap_id (by omega) (by omega)]
  · rw [if_neg hm]
    by_cases ha : a < 0
    · have e := ediv_floor hb ha hm
      rw [if_pos (by simp [ha]; omega), wrap_id (x := Int.tdiv a b) (by omega) (by omega), e, wrap_id (by omega) (by omega)]
    · rw [if_neg (by simp [ha]; omega), td_pos (by omega), wrap_id (by omega) (by omega)]

/-! plain facts on texts as lists of numbers -/
theorem u8_back (b : UInt8) : UInt8.ofNat ((b.toNat : Int)).toNat = b := by simp
theorem strOfNums_bytesOf (s : ByteArray) : strOfNums (bytesOf s) = s := by
  cases s with | mk d =>
  unfold strOfNums bytesOf
  congr 1
  rw [List.map_map]
  have : ((fun n : Int => UInt8.ofNat n.toNat) ∘ fun b : UInt8 => (b.toNat : Int)) = id := by funext b; exact u8_back b
  rw [this, List.map_id]
def okL (xs : List Int) : Prop := ∀ x ∈ xs, 0 ≤ x ∧ x < 256
theorem bytesOf_strOfNums (xs : List Int) (h : okL xs) : bytesOf (strOfNums xs) = xs := by
  unfold bytesOf
  rw [strOfNums_data, List.map_map]
  conv => rhs; rw [← List.map_id xs]
  refine List.map_congr_left fun x hx => ?_
  have := h x hx
  simp only [Function.comp, UInt8.toNat_ofNat', id]
  omega
theorem okL_bytesOf (s : ByteArray) : okL (bytesOf s) := by
  intro x hx
  obtain ⟨b, _, rfl⟩ := List.mem_map.1 hx
  have := b.toNat_lt
  omega
theorem strOfNums_app (xs ys : List Int) : strOfNums xs ++ strOfNums ys = strOfNums (xs ++ ys) := by
  apply ByteArray.ext
  rw [ByteArray.data_append]
  simp [strOfNums]
theorem bytesOf_inj {s t : ByteArray} (h : bytesOf s = bytesOf t) : s = t := by
  rw [← strOfNums_bytesOf s, ← strOfNums_bytesOf t, h]
theorem toList_iff (s t : ByteArray) : s.toList = t.toList ↔ bytesOf s = bytesOf t := by
  rw [ByteArray.toList_eq, ByteArray.toList_eq]
  constructor
  · intro h; unfold bytesOf; rw [h]
  · intro h; rw [bytesOf_inj h]
theorem bt_of (s : ByteArray) (L : List Int) (h : bytesOf s = L) (i : Int) : bt s i = rd L i := by
  rw [← h, rd_bytesOf]
theorem size_of' (s : ByteArray) (L : List Int) (h : bytesOf s = L) : s.size = L.length := by
  rw [← h, bytesOf_length]

def goodRefB (r c : Int) : Bool := decide (1 ≤ r ∧ r ≤ 1000 ∧ 1 ≤ c ∧ c ≤ 200)
theorem specGoodRef_is (r c : Int) (a b : Bool) : spec_GoodRef.f r c a b = some (goodRefB r c) := by
  unfold spec_GoodRef.f goodRefB
  by_cases h1 : 1 ≤ r <;> by_cases h2 : r ≤ 1000 <;> by_cases h3 : 1 ≤ c <;> by_cases h4 : c ≤ 200 <;> simp [h1, h2, h3, h4]
theorem implGoodRef_is (r c : Int) (a b : Bool) : impl_GoodRef.f r c a b = some (goodRefB r c) := by
  unfold impl_GoodRef.f impl_Ref_place.f impl_place_good.f goodRefB
  simp only [Option.bind_some]
  by_cases h1 : 1 ≤ r <;> by_cases h2 : r ≤ 1000 <;> by_cases h3 : 1 ≤ c <;> by_cases h4 : c ≤ 200 <;> simp [h1, h2, h3, h4]

theorem colName_l0_same : ∀ (k : Nat) (x : Int) (s : ByteArray), spec_ColName.l0 k x s = impl_ColName.l0 k x s
  | 0, _, _ => rfl
  | k + 1, x, s => by
    simp only [spec_ColName.l0, impl_ColName.l0]
    split
    · simp only [Option.bind_some]
      split
      · exact colName_l0_same k _ _
      · rfl
    · rfl
theorem colName_same (k : Nat) (n : Int) : spec_ColName.f k n = impl_ColName.f k n := by
  unfold spec_ColName.f impl_ColName.f
  have j : ∀ b, spec_ColName.j0 k n b = impl_ColName.j0 k n b := by
    intro b
    cases k with
    | zero => rfl
    | succ k => simp only [spec_ColName.j0, impl_ColName.j0, colName_l0_same]
  rw [j, j]
theorem colName_l0_ends : ∀ (d k : Nat) (x : Int) (s : ByteArray), x ≤ d → d < k → s.size + d ≤ 1000000 → ∃ r, spec_ColName.l0 k x s = some r := by
  intro d
  induction d with
  | zero =>
    intro k x s hx hk hs
    obtain ⟨k, rfl⟩ : ∃ m, k = m + 1 := ⟨k - 1, by omega⟩
    exact ⟨s, by simp only [spec_ColName.l0]; rw [if_neg (by omega)]⟩
  | succ d ih =>
    intro k x s hx hk hs
    obtain ⟨k, rfl⟩ : ∃ m, k = m + 1 := ⟨k - 1, by omega⟩
    by_cases h : x > 0
    · have hz : ∀ c : Int, (strOfNums [c]).size = 1 := fun c => rfl
      simp only [spec_ColName.l0]
      rw [if_pos h]
      simp only [Option.bind_some]
      rw [if_pos (by rw [hz]; omega)]
      refine ih k _ _ ?_ (by omega) ?_
      · have : Int.tdiv (wrap64 (x - 1)) 26 ≤ d := by
          have w : wrap64 (x - 1) = x - 1 := wrap_id (by omega) (by omega)
          rw [w, td_pos (by omega)]; omega
        have h0 : 0 ≤ Int.tdiv (wrap64 (x - 1)) 26 := by
          have w : wrap64 (x - 1) = x - 1 := wrap_id (by omega) (by omega)
          rw [w, td_pos (by omega)]; omega
        rw [wrap_id (by omega) (by omega)]; exact this
      · rw [ByteArray.size_append, hz]; omega
    · exact ⟨s, by simp only [spec_ColName.l0]; rw [if_neg h]⟩
theorem colName_ends (n : Int) : ∃ r, spec_ColName.f 300 n = some r := by
  unfold spec_ColName.f
  by_cases h : n < 1
  · rw [if_pos h]; exact ⟨_, rfl⟩
  · rw [if_neg h]
    by_cases h2 : n > 200
    · exact ⟨(⟨#[]⟩ : ByteArray), by simp [spec_ColName.j0, h2]⟩
    · obtain ⟨r, hr⟩ := colName_l0_ends 200 299 n (⟨#[]⟩ : ByteArray) (by omega) (by omega) (by show 0 + 200 ≤ 1000000; omega)
      exact ⟨r, by
        have : decide (n > 200) = false := decide_eq_false h2
        rw [this]; show spec_ColName.j0 (299 + 1) n false = some r
        simp only [spec_ColName.j0]; rw [if_neg (by decide)]; exact hr⟩

/-- The name of a column, as a list of bytes. -/
def cnL (n : Int) : List Int := if n < 1 then [] else if n > 200 then [] else if n ≤ 26 then [64 + n] else [64 + (n - 1) / 26, 65 + (n - 1) % 26]
theorem cnL_ok (n : Int) : okL (cnL n) := by
  intro x hx
  unfold cnL at hx
  split at hx
  · cases hx
  · split at hx
    · cases hx
    · split at hx
      · simp at hx; omega
      · simp at hx; omega
theorem colName_step (k : Nat) (x : Int) (L : List Int) (h0 : 0 < x) (h1 : x ≤ 200) (hL : L.length ≤ 100) :
    spec_ColName.l0 (k + 1) x (strOfNums L) = spec_ColName.l0 k ((x - 1) / 26) (strOfNums ((65 + (x - 1) % 26) :: L)) := by
  simp only [spec_ColName.l0]
  rw [if_pos h0]
  simp only [Option.bind_some]
  have w : wrap64 (x - 1) = x - 1 := wrap_id (by omega) (by omega)
  rw [w, td_pos (by omega), tm_pos (by omega), wrap_id (x := 65 + (x - 1) % 26) (by omega) (by omega), wrap_id (by omega) (by omega), strOfNums_app, strOfNums_size, strOfNums_size]
  rw [if_pos (by simp; omega), show (65 + (x - 1) % 26) % 256 = 65 + (x - 1) % 26 from by omega]
  rfl
theorem colName_zero (k : Nat) (s : ByteArray) : spec_ColName.l0 (k + 1) 0 s = some s := by
  simp only [spec_ColName.l0]; rw [if_neg (by omega)]
theorem colName_is (k : Nat) (n : Int) : spec_ColName.f (k + 4) n = some (strOfNums (cnL n)) := by
  unfold spec_ColName.f cnL
  by_cases h : n < 1
  · rw [if_pos h, if_pos h]; rfl
  · rw [if_neg h, if_neg h]
    by_cases h2 : n > 200
    · rw [if_pos h2]; simp only [spec_ColName.j0]; rw [if_pos (decide_eq_true h2)]; rfl
    · rw [if_neg h2]
      simp only [spec_ColName.j0]; rw [if_neg (by simp; omega)]
      have e0 : (⟨#[]⟩ : ByteArray) = strOfNums [] := rfl
      rw [e0, colName_step _ _ _ (by omega) (by omega) (by simp)]
      by_cases h3 : n ≤ 26
      · rw [if_pos h3, show (n - 1) / 26 = 0 from by omega, colName_zero, show (n - 1) % 26 = n - 1 from by omega, show 65 + (n - 1) = 64 + n from by omega]
      · rw [if_neg h3, colName_step _ _ _ (by omega) (by omega) (by simp), show ((n - 1) / 26 - 1) / 26 = 0 from by omega, colName_zero, show ((n - 1) / 26 - 1) % 26 = (n - 1) / 26 - 1 from by omega, show 65 + ((n - 1) / 26 - 1) = 64 + (n - 1) / 26 from by omega]

theorem num_step (k : Nat) (s : ByteArray) (n i : Int) (h0 : 0 ≤ i) (h : i < s.size) (h4 : i < 4) (l : 65 ≤ bt s i) (u : bt s i ≤ 90) (n0 : 0 ≤ n) (n1 : n ≤ 1000000) :
    spec_ColNumber.l0 (k + 2) s n i = spec_ColNumber.l0 k s (n * 26 + (bt s i - 64)) (i + 1) := by
  simp only [spec_ColNumber.l0, spec_ColNumber.j1]
  rw [if_pos h, if_pos (decide_eq_true h4), if_pos h0, if_pos h, if_neg (by omega), if_neg (by omega)]
  rw [wrap_id (x := n * 26) (by omega) (by omega), show ((bt s i) - 65) % 256 = bt s i - 65 from by omega, wrap_id (x := n * 26 + (bt s i - 65)) (by omega) (by omega), wrap_id (x := n * 26 + (bt s i - 65) + 1) (by omega) (by omega), wrap_id (x := i + 1) (by omega) (by omega)]
  rw [show n * 26 + (bt s i - 65) + 1 = n * 26 + (bt s i - 64) from by omega]
theorem num_bad (k : Nat) (s : ByteArray) (n i : Int) (h0 : 0 ≤ i) (h : i < s.size) (h4 : i < 4) (l : bt s i < 65 ∨ 90 < bt s i) :
    spec_ColNumber.l0 (k + 2) s n i = some 0 := by
  simp only [spec_ColNumber.l0, spec_ColNumber.j1]
  rw [if_pos h, if_pos (decide_eq_true h4), if_pos h0, if_pos h]
  by_cases l1 : bt s i < 65
  · rw [if_pos l1]
  · rw [if_neg l1, if_pos (by omega)]
theorem num_end (k : Nat) (s : ByteArray) (n i : Int) (h : (s.size : Int) ≤ i ∨ 4 ≤ i) :
    spec_ColNumber.l0 (k + 6) s n i = if cnL n = bytesOf s then some n else some 0 := by
  have e : spec_ColNumber.j1 (k + 5) s n i false = if cnL n = bytesOf s then some n else some 0 := by
    simp only [spec_ColNumber.j1]
    rw [if_neg (by decide), colName_is]
    simp only [Option.bind_some]
    by_cases c : cnL n = bytesOf s
    · rw [if_pos c, if_pos ((toList_iff _ _).2 (by rw [bytesOf_strOfNums _ (cnL_ok n), c]))]
    · rw [if_neg c, if_neg (fun q => c (by rw [← bytesOf_strOfNums _ (cnL_ok n)]; exact (toList_iff _ _).1 q))]
  simp only [spec_ColNumber.l0]
  by_cases c : i < (s.size : Int)
  · rw [if_pos c, decide_eq_false (by omega : ¬ i < 4)]; exact e
  · rw [if_neg c]; exact e
theorem imp_step (k : Nat) (s : ByteArray) (n i : Int) (h0 : 0 ≤ i) (h : i < s.size) (hz : s.size ≤ 3) (l : 65 ≤ bt s i) (u : bt s i ≤ 90) (n0 : 0 ≤ n) (n1 : n ≤ 1000000) :
    impl_ColNumber.l0 (k + 1) s n i = impl_ColNumber.l0 k s (n * 26 + (bt s i - 64)) (i + 1) := by
  simp only [impl_ColNumber.l0]
  rw [if_pos h, if_pos h0, if_neg (by omega), if_neg (by omega)]
  rw [wrap_id (x := n * 26) (by omega) (by omega), show ((bt s i) - 65) % 256 = bt s i - 65 from by omega, wrap_id (x := n * 26 + (bt s i - 65)) (by omega) (by omega), wrap_id (x := n * 26 + (bt s i - 65) + 1) (by omega) (by omega), wrap_id (x := i + 1) (by omega) (by omega)]
  rw [show n * 26 + (bt s i - 65) + 1 = n * 26 + (bt s i - 64) from by omega]
theorem imp_bad (k : Nat) (s : ByteArray) (n i : Int) (h0 : 0 ≤ i) (h : i < s.size) (l : bt s i < 65 ∨ 90 < bt s i) :
    impl_ColNumber.l0 (k + 1) s n i = some 0 := by
  simp only [impl_ColNumber.l0]
  rw [if_pos h, if_pos h0]
  by_cases l1 : bt s i < 65
  · rw [if_pos l1]
  · rw [if_neg l1, if_pos (by omega)]
theorem imp_end (k : Nat) (s : ByteArray) (n i : Int) (h : (s.size : Int) ≤ i) :
    impl_ColNumber.l0 (k + 1) s n i = if n > 200 then some 0 else some n := by
  simp only [impl_ColNumber.l0]
  rw [if_neg (by omega)]
/-- What both tell: the number of a column's name. -/
def numL : List Int → Int
  | [a] => if 65 ≤ a ∧ a ≤ 90 then a - 64 else 0
  | [a, b] => if 65 ≤ a ∧ a ≤ 90 then (if 65 ≤ b ∧ b ≤ 90 then (if 26 * (a - 64) + (b - 64) > 200 then 0 else 26 * (a - 64) + (b - 64)) else 0) else 0
  | _ => 0
theorem rd0 (a : Int) (l : List Int) : rd (a :: l) 0 = a := rfl
theorem rd1 (a b : Int) (l : List Int) : rd (a :: b :: l) 1 = b := rfl
theorem rd2 (a b c : Int) (l : List Int) : rd (a :: b :: c :: l) 2 = c := rfl
theorem rd3 (a b c d : Int) (l : List Int) : rd (a :: b :: c :: d :: l) 3 = d := rfl
theorem specNumber_is (k : Nat) (s : ByteArray) : spec_ColNumber.f (k + 14) s = some (numL (bytesOf s)) := by
  unfold spec_ColNumber.f
  generalize hL : bytesOf s = L
  have hz := size_of' s L hL
  have b0 := bt_of s L hL 0
  have b1 := bt_of s L hL 1
  have b2 := bt_of s L hL 2
  have b3 := bt_of s L hL 3
  match L, hL, hz, b0, b1, b2, b3 with
  | [], hL, hz, b0, b1, b2, b3 =>
    rw [num_end (k + 8) s 0 0 (.inl (by rw [hz]; simp)), hL]
    rfl
  | [a], hL, hz, b0, b1, b2, b3 =>
    rw [rd0] at b0
    by_cases la : 65 ≤ a ∧ a ≤ 90
    · rw [num_step (k + 12) s 0 0 (by omega) (by rw [hz]; simp) (by omega) (by omega) (by omega) (by omega) (by omega), num_end (k + 6) s _ _ (.inl (by rw [hz]; simp)), hL, b0]
      have e : cnL (0 * 26 + (a - 64)) = [a] := by
        unfold cnL; rw [if_neg (by omega), if_neg (by omega), if_pos (by omega)]; congr 1; omega
      rw [if_pos e]; show some _ = some (if 65 ≤ a ∧ a ≤ 90 then a - 64 else 0); rw [if_pos la]; congr 1; omega
    · rw [num_bad (k + 12) s 0 0 (by omega) (by rw [hz]; simp) (by omega) (by omega)]
      show some _ = some (if 65 ≤ a ∧ a ≤ 90 then a - 64 else 0); rw [if_neg la]
  | [a, b], hL, hz, b0, b1, b2, b3 =>
    rw [rd0] at b0; rw [rd1] at b1
    show _ = some (if 65 ≤ a ∧ a ≤ 90 then (if 65 ≤ b ∧ b ≤ 90 then (if 26 * (a - 64) + (b - 64) > 200 then 0 else 26 * (a - 64) + (b - 64)) else 0) else 0)
    by_cases la : 65 ≤ a ∧ a ≤ 90
    · rw [num_step (k + 12) s 0 0 (by omega) (by rw [hz]; simp) (by omega) (by omega) (by omega) (by omega) (by omega), if_pos la, b0]
      by_cases lb : 65 ≤ b ∧ b ≤ 90
      · rw [num_step (k + 10) s _ (0 + 1) (by omega) (by rw [hz]; simp) (by omega) (by rw [show (0 : Int) + 1 = 1 from rfl]; omega) (by rw [show (0 : Int) + 1 = 1 from rfl]; omega) (by omega) (by omega), num_end (k + 4) s _ _ (.inl (by rw [hz]; simp)), hL, if_pos lb, show (0 : Int) + 1 = 1 from rfl, b1]
        by_cases g : 26 * (a - 64) + (b - 64) > 200
        · rw [if_pos g, if_neg]
          unfold cnL; rw [if_neg (by omega), if_pos (by omega)]; simp
        · have e : cnL ((0 * 26 + (a - 64)) * 26 + (b - 64)) = [a, b] := by
            unfold cnL; rw [if_neg (by omega), if_neg (by omega), if_neg (by omega)]; congr 1
            · omega
            · congr 1; omega
          rw [if_neg g, if_pos e]; congr 1; omega
      · rw [num_bad (k + 10) s _ (0 + 1) (by omega) (by rw [hz]; simp) (by omega) (by rw [show (0 : Int) + 1 = 1 from rfl]; omega), if_neg lb]
    · rw [num_bad (k + 12) s 0 0 (by omega) (by rw [hz]; simp) (by omega) (by omega), if_neg la]
  | a :: b :: c :: l, hL, hz, b0, b1, b2, b3 =>
    rw [rd0] at b0; rw [rd1] at b1; rw [rd2] at b2
    show _ = some 0
    simp only [List.length_cons] at hz
    by_cases la : 65 ≤ a ∧ a ≤ 90
    · rw [num_step (k + 12) s 0 0 (by omega) (by omega) (by omega) (by omega) (by omega) (by omega) (by omega), b0]
      by_cases lb : 65 ≤ b ∧ b ≤ 90
      · rw [show (0 : Int) + 1 = 1 from rfl, num_step (k + 10) s _ 1 (by omega) (by omega) (by omega) (by omega) (by omega) (by omega) (by omega), b1]
        by_cases lc : 65 ≤ c ∧ c ≤ 90
        · rw [show (1 : Int) + 1 = 2 from rfl, num_step (k + 8) s _ 2 (by omega) (by omega) (by omega) (by omega) (by omega) (by omega) (by omega), b2]
          rw [show (2 : Int) + 1 = 3 from rfl]
          have far : ∀ m : Int, 703 ≤ m → cnL m ≠ bytesOf s := by
            intro m hm; rw [hL]; unfold cnL; rw [if_neg (by omega), if_pos (by omega)]; simp
          by_cases h4 : l.length = 0
          · rw [num_end (k + 2) s _ 3 (.inl (by omega)), if_neg (far _ (by omega))]
          · by_cases ld : 65 ≤ bt s 3 ∧ bt s 3 ≤ 90
            · rw [num_step (k + 6) s _ 3 (by omega) (by omega) (by omega) (by omega) (by omega) (by omega) (by omega), num_end k s _ (3 + 1) (.inr (by omega)), if_neg (far _ (by omega))]
            · rw [num_bad (k + 6) s _ 3 (by omega) (by omega) (by omega) (by omega)]
        · rw [show (1 : Int) + 1 = 2 from rfl, num_bad (k + 8) s _ 2 (by omega) (by omega) (by omega) (by omega)]
      · rw [show (0 : Int) + 1 = 1 from rfl, num_bad (k + 10) s _ 1 (by omega) (by omega) (by omega) (by omega)]
    · rw [num_bad (k + 12) s 0 0 (by omega) (by omega) (by omega) (by omega)]
theorem implNumber_is (k : Nat) (s : ByteArray) : impl_ColNumber.f (k + 5) s = some (numL (bytesOf s)) := by
  unfold impl_ColNumber.f
  generalize hL : bytesOf s = L
  have hz := size_of' s L hL
  have b0 := bt_of s L hL 0
  have b1 := bt_of s L hL 1
  have b2 := bt_of s L hL 2
  match L, hL, hz, b0, b1, b2 with
  | [], hL, hz, b0, b1, b2 =>
    rw [if_pos (by rw [hz]; simp)]; rfl
  | [a], hL, hz, b0, b1, b2 =>
    rw [rd0] at b0
    simp only [List.length_cons, List.length_nil] at hz
    rw [if_neg (by omega), decide_eq_false (by omega)]
    simp only [impl_ColNumber.j0]; rw [if_neg (by decide)]
    show _ = some (if 65 ≤ a ∧ a ≤ 90 then a - 64 else 0)
    by_cases la : 65 ≤ a ∧ a ≤ 90
    · rw [imp_step (k + 3) s 0 0 (by omega) (by omega) (by omega) (by omega) (by omega) (by omega) (by omega), imp_end _ _ _ _ (by omega), if_neg (by omega), if_pos la]; congr 1; omega
    · rw [imp_bad (k + 3) s 0 0 (by omega) (by omega) (by omega), if_neg la]
  | [a, b], hL, hz, b0, b1, b2 =>
    rw [rd0] at b0; rw [rd1] at b1
    simp only [List.length_cons, List.length_nil] at hz
    rw [if_neg (by omega), decide_eq_false (by omega)]
    simp only [impl_ColNumber.j0]; rw [if_neg (by decide)]
    show _ = some (if 65 ≤ a ∧ a ≤ 90 then (if 65 ≤ b ∧ b ≤ 90 then (if 26 * (a - 64) + (b - 64) > 200 then 0 else 26 * (a - 64) + (b - 64)) else 0) else 0)
    by_cases la : 65 ≤ a ∧ a ≤ 90
    · rw [imp_step (k + 3) s 0 0 (by omega) (by omega) (by omega) (by omega) (by omega) (by omega) (by omega), if_pos la, show (0 : Int) + 1 = 1 from rfl]
      by_cases lb : 65 ≤ b ∧ b ≤ 90
      · rw [imp_step (k + 2) s _ 1 (by omega) (by omega) (by omega) (by omega) (by omega) (by omega) (by omega), imp_end _ _ _ _ (by omega), if_pos lb, b0, b1]
        by_cases g : 26 * (a - 64) + (b - 64) > 200
        · rw [if_pos g, if_pos (by omega)]
        · rw [if_neg g, if_neg (by omega)]; congr 1; omega
      · rw [imp_bad (k + 2) s _ 1 (by omega) (by omega) (by omega), if_neg lb]
    · rw [imp_bad (k + 3) s 0 0 (by omega) (by omega) (by omega), if_neg la]
  | a :: b :: c :: l, hL, hz, b0, b1, b2 =>
    rw [rd0] at b0; rw [rd1] at b1; rw [rd2] at b2
    simp only [List.length_cons] at hz
    show _ = some 0
    rw [if_neg (by omega)]
    by_cases h4 : (s.size : Int) > 3
    · rw [decide_eq_true h4]; rfl
    rw [decide_eq_false h4]
    simp only [impl_ColNumber.j0]; rw [if_neg (by decide)]
    by_cases la : 65 ≤ a ∧ a ≤ 90
    · rw [imp_step (k + 3) s 0 0 (by omega) (by omega) (by omega) (by omega) (by omega) (by omega) (by omega), show (0 : Int) + 1 = 1 from rfl]
      by_cases lb : 65 ≤ b ∧ b ≤ 90
      · rw [imp_step (k + 2) s _ 1 (by omega) (by omega) (by omega) (by omega) (by omega) (by omega) (by omega), show (1 : Int) + 1 = 2 from rfl]
        by_cases lc : 65 ≤ c ∧ c ≤ 90
        · rw [imp_step (k + 1) s _ 2 (by omega) (by omega) (by omega) (by omega) (by omega) (by omega) (by omega), imp_end _ _ _ _ (by omega), if_pos (by omega)]
        · rw [imp_bad (k + 1) s _ 2 (by omega) (by omega) (by omega)]
      · rw [imp_bad (k + 2) s _ 1 (by omega) (by omega) (by omega)]
    · rw [imp_bad (k + 3) s 0 0 (by omega) (by omega) (by omega)]

theorem colName_l0_sz : ∀ (d : Nat) (x : Int) (s : ByteArray), x ≤ d → s.size + d ≤ 1000000 → ∃ r, (∀ k, d < k → spec_ColName.l0 k x s = some r) ∧ r.size ≤ s.size + d := by
  intro d
  induction d with
  | zero =>
    intro x s hx hs
    refine ⟨s, fun k hk => ?_, by omega⟩
    obtain ⟨k, rfl⟩ : ∃ m, k = m + 1 := ⟨k - 1, by omega⟩
    simp only [spec_ColName.l0]; rw [if_neg (by omega)]
  | succ d ih =>
    intro x s hx hs
    by_cases h : x > 0
    · have hz : ∀ c : Int, (strOfNums [c]).size = 1 := fun c => rfl
      obtain ⟨r, h1, h2⟩ := ih (wrap64 (Int.tdiv (wrap64 (x - 1)) 26)) (strOfNums [(wrap64 (65 + (Int.tmod (wrap64 (x - 1)) 26))) % 256] ++ s) (by
        have : Int.tdiv (wrap64 (x - 1)) 26 ≤ d := by
          have w : wrap64 (x - 1) = x - 1 := wrap_id (by omega) (by omega)
          rw [w, td_pos (by omega)]; omega
        have h0 : 0 ≤ Int.tdiv (wrap64 (x - 1)) 26 := by
          have w : wrap64 (x - 1) = x - 1 := wrap_id (by omega) (by omega)
          rw [w, td_pos (by omega)]; omega
        rw [wrap_id (by omega) (by omega)]; exact this) (by rw [ByteArray.size_append, hz]; omega)
      refine ⟨r, fun k hk => ?_, by rw [ByteArray.size_append, hz] at h2; omega⟩
      obtain ⟨k, rfl⟩ : ∃ m, k = m + 1 := ⟨k - 1, by omega⟩
      simp only [spec_ColName.l0]
      rw [if_pos h]
      simp only [Option.bind_some]
      rw [if_pos (by rw [hz]; omega)]
      exact h1 k (by omega)
    · refine ⟨s, fun k hk => ?_, by omega⟩
      obtain ⟨k, rfl⟩ : ∃ m, k = m + 1 := ⟨k - 1, by omega⟩
      simp only [spec_ColName.l0]; rw [if_neg h]
theorem colName_sz (n : Int) : ∃ r, (∀ k, 300 ≤ k → spec_ColName.f k n = some r) ∧ r.size ≤ 1000 := by
  by_cases h : n < 1
  · refine ⟨⟨#[]⟩, fun k hk => ?_, by show 0 ≤ 1000; omega⟩
    obtain ⟨k, rfl⟩ : ∃ m, k = m + 1 := ⟨k - 1, by omega⟩
    unfold spec_ColName.f; rw [if_pos h]; simp [spec_ColName.j0]
  · by_cases h2 : n > 200
    · refine ⟨⟨#[]⟩, fun k hk => ?_, by show 0 ≤ 1000; omega⟩
      obtain ⟨k, rfl⟩ : ∃ m, k = m + 1 := ⟨k - 1, by omega⟩
      unfold spec_ColName.f; rw [if_neg h]; simp [spec_ColName.j0, h2]
    · obtain ⟨r, hr, hs⟩ := colName_l0_sz 200 n (⟨#[]⟩ : ByteArray) (by omega) (by show 0 + 200 ≤ 1000000; omega)
      refine ⟨r, fun k hk => ?_, by have : (⟨#[]⟩ : ByteArray).size = 0 := rfl; omega⟩
      obtain ⟨k, rfl⟩ : ∃ m, k = m + 1 := ⟨k - 1, by omega⟩
      unfold spec_ColName.f; rw [if_neg h]
      have : decide (n > 200) = false := decide_eq_false h2
      rw [this]
      simp only [spec_ColName.j0]; rw [if_neg (by decide)]; exact hr k (by omega)

/-- A number's decimal text. -/
def txt (n : Int) : ByteArray := ⟨(Lib.itoa n).toArray⟩
theorem l1Num_is (n : Int) (h1 : -1000000000000000000 < n) (h2 : n < 1000000000000000000) : spec_l1Num.f n = some (txt n) := by unfold spec_l1Num.f; rw [if_pos ⟨h1, h2⟩]; rfl
theorem itoa_is (n : Int) (h1 : -1000000000000000000 < n) (h2 : n < 1000000000000000000) : strconv_Itoa.f n = some (txt n) := by unfold strconv_Itoa.f; rw [if_pos ⟨by omega, by omega⟩]; rfl
theorem txt_le (n : Int) (h1 : -1000000000000000000 < n) (h2 : n < 1000000000000000000) : (txt n).size ≤ 21 := by
  have := Lib.itoa_length_le n (by omega) (by omega)
  show (Lib.itoa n).toArray.size ≤ 21
  simpa using this

theorem txt_neg (d : Int) (h : d < 0) : txt d = (⟨#[45]⟩ : ByteArray) ++ txt (-d) := by
  have e1 : Lib.itoa d = 45 :: Lib.decDigits d.natAbs := by unfold Lib.itoa; rw [if_pos h]
  have e2 : Lib.itoa (-d) = Lib.decDigits d.natAbs := by unfold Lib.itoa; rw [if_neg (by omega)]; congr 1; omega
  apply ByteArray.ext
  show (Lib.itoa d).toArray = _
  rw [e1, ByteArray.data_append]
  show _ = #[45] ++ (Lib.itoa (-d)).toArray
  rw [e2]; simp
theorem txt_size (u : Nat) : (txt (u : Int)).size = Lib.nDigits u := by
  have e : Lib.itoa (u : Int) = Lib.decDigits u := by unfold Lib.itoa; rw [if_neg (by omega)]; simp
  show (Lib.itoa (u : Int)).toArray.size = _
  rw [e]; simp [Lib.decDigits_length]
theorem txt_pos (n : Int) (h1 : -1000000000000000000 < n) (h2 : n < 1000000000000000000) : 1 ≤ (txt n).size := by
  rcases Int.lt_or_le n 0 with h | h
  · rw [txt_neg n h, ByteArray.size_append]; show 1 ≤ 1 + _; omega
  · obtain ⟨u, rfl⟩ : ∃ u : Nat, n = u := ⟨n.toNat, by omega⟩
    rw [txt_size]; exact Lib.nDigits_pos u
theorem ba_assoc (a b c : ByteArray) : a ++ b ++ c = a ++ (b ++ c) := ByteArray.append_assoc
theorem ba_ext {a b : ByteArray} (h : a.data.toList = b.data.toList) : a = b := ByteArray.ext (Array.toList_inj.1 h)

/-- A reference's text, its column's name known. -/
def refTxt (r : Int) (a b : Bool) (n : ByteArray) : ByteArray := (((if b then (⟨#[36]⟩ : ByteArray) else ⟨#[]⟩) ++ n ++ (if a then (⟨#[36]⟩ : ByteArray) else ⟨#[]⟩)) ++ txt r)
theorem specRefText_is (k : Nat) (r c : Int) (a b : Bool) (h : goodRefB r c = true) (n : ByteArray) (hn : spec_ColName.f k c = some n) (hs : n.size ≤ 1000) : spec_RefText.f k r c a b = some (refTxt r a b n) := by
  have hb : 1 ≤ r ∧ r ≤ 1000 := by unfold goodRefB at h; have := of_decide_eq_true h; omega
  have ht := txt_le r (by omega) (by omega)
  have z0 : (⟨#[]⟩ : ByteArray).size = 0 := rfl
  have z1 : (⟨#[36]⟩ : ByteArray).size = 1 := rfl
  unfold spec_RefText.f spec_l3Fix.f refTxt
  rw [specGoodRef_is, h, hn, l1Num_is r (by omega) (by omega)]
  cases a <;> cases b <;> simp only [Option.bind_some, if_true, if_false, Bool.false_eq_true, ByteArray.size_append, z0, z1] <;> rw [if_pos (by omega), if_pos (by omega), if_pos (by omega)]
theorem implRefText_is (k : Nat) (r c : Int) (a b : Bool) (h : goodRefB r c = true) (n : ByteArray) (hn : impl_ColName.f k c = some n) (hs : n.size ≤ 1000) : impl_RefText.f (k + 1) r c a b = some (refTxt r a b n) := by
  have hb : 1 ≤ r ∧ r ≤ 1000 := by unfold goodRefB at h; have := of_decide_eq_true h; omega
  have ht := txt_le r (by omega) (by omega)
  have z0 : (⟨#[]⟩ : ByteArray).size = 0 := rfl
  have z1 : (⟨#[36]⟩ : ByteArray).size = 1 := rfl
  have z2 : ∀ x : ByteArray, x ++ (⟨#[]⟩ : ByteArray) = x := fun x => ByteArray.append_empty
  unfold impl_RefText.f refTxt
  rw [implGoodRef_is, h]
  simp only [Option.bind_some, if_true, impl_RefText.j0, hn, itoa_is r (by omega) (by omega)]
  cases a <;> cases b <;> simp only [Option.bind_some, if_true, if_false, Bool.false_eq_true, ByteArray.size_append, z0, z1, z2] <;> (first | (rw [if_pos (by omega), if_pos (by omega), if_pos (by omega)]) | (rw [if_pos (by omega), if_pos (by omega)]))

/-! Reading a reference: both parse alike but for the row's number, and both hold what they read against its text. -/
def isL (x : Int) : Bool := decide (65 ≤ x ∧ x ≤ 90)
def dolB (L : List Int) : Bool := match L with | x :: _ => decide (x = 36) | [] => false
def cutD (L : List Int) : List Int := if dolB L then L.tail else L
def dolL (b : Bool) : List Int := if b then [36] else []
theorem dol_split (L : List Int) : L = dolL (dolB L) ++ cutD L := by
  unfold cutD dolL
  cases L with
  | nil => rfl
  | cons x l =>
    by_cases h : x = 36
    · subst h; simp [dolB]
    · simp [dolB, h]
theorem tw_le (L : List Int) : (L.takeWhile isL).length ≤ L.length := (List.takeWhile_sublist isL).length_le
/-- The digits' number; -1 where there are others, or none, or more than six. -/
def l2go (acc : Int) : List Int → Int
  | [] => acc
  | d :: r => if 48 ≤ d ∧ d ≤ 57 then l2go (acc * 10 + (d - 48)) r else -1
def l2L (L : List Int) : Int := if L.length < 1 then -1 else if L.length > 6 then -1 else l2go 0 L
def p10 : Nat → Int
  | 0 => 1
  | n + 1 => p10 n * 10
theorem p10_le : ∀ i : Nat, i ≤ 6 → 1 ≤ p10 i ∧ p10 i ≤ 1000000 := by
  intro i h
  rcases (by omega : i = 0 ∨ i = 1 ∨ i = 2 ∨ i = 3 ∨ i = 4 ∨ i = 5 ∨ i = 6) with rfl | rfl | rfl | rfl | rfl | rfl | rfl <;> decide
theorem at_bt (s : ByteArray) (i : Nat) (h : i < (bytesOf s).length) : (bytesOf s)[i] = bt s (i : Int) := by
  have := rd_bytesOf s (i : Int)
  unfold rd at this
  rw [Int.toNat_natCast, List.getD_eq_getElem?_getD, List.getElem?_eq_getElem h] at this
  exact this
theorem l2_l0 (s : ByteArray) : ∀ (n k i : Nat) (acc : Int), i + n = s.size → i + n ≤ 6 → 0 ≤ acc → acc < p10 i → spec_l2Number.l0 (k + n + 1) s acc (i : Int) = some (l2go acc ((bytesOf s).drop i)) := by
  intro n
  induction n with
  | zero =>
    intro k i acc hi h6 h0 h1
    simp only [spec_l2Number.l0]
    rw [if_neg (by omega), List.drop_eq_nil_of_le (by rw [bytesOf_length]; omega)]
    rfl
  | succ n ih =>
    intro k i acc hi h6 h0 h1
    have hlt : i < (bytesOf s).length := by rw [bytesOf_length]; omega
    have hb := at_bt s i hlt
    have hr := bt_range s (i : Int)
    have hp := p10_le i (by omega)
    have ih' := ih k (i + 1)
    obtain ⟨m, hm⟩ : ∃ m, m = k + n + 1 := ⟨_, rfl⟩
    rw [show k + (n + 1) + 1 = m + 1 from by omega]
    rw [← hm] at ih'
    simp only [spec_l2Number.l0, spec_l1Digit.f]
    rw [if_pos (by omega), if_pos (by omega), List.drop_eq_getElem_cons hlt, hb]
    show _ = some (if 48 ≤ bt s (i : Int) ∧ bt s (i : Int) ≤ 57 then l2go (acc * 10 + (bt s (i : Int) - 48)) ((bytesOf s).drop (i + 1)) else -1)
    by_cases a : bt s (i : Int) ≥ 48
    · rw [if_pos a]
      simp only [Option.bind_some]
      by_cases b : bt s (i : Int) ≤ 57
      · rw [if_pos (by simp [b]), if_pos ⟨a, b⟩, wrap_id (x := acc * 10) (by omega) (by omega), show (bt s (i : Int) - 48) % 256 = bt s (i : Int) - 48 from by omega, wrap_id (by omega) (by omega), wrap_id (by omega) (by omega), show (i : Int) + 1 = ((i + 1 : Nat) : Int) from by omega]
        exact ih' _ (by omega) (by omega) (by omega) (by show _ < p10 i * 10; omega)
      · rw [if_neg (by simp [b]), if_neg (by omega)]
    · rw [if_neg a, if_neg (by omega)]; rfl
theorem l2_is (k : Nat) (s : ByteArray) : spec_l2Number.f (k + 10) s = some (l2L (bytesOf s)) := by
  have hz := bytesOf_length s
  unfold spec_l2Number.f l2L
  by_cases h1 : s.size < 1
  · rw [if_pos (by omega), if_pos (by omega)]; simp [spec_l2Number.j0]
  · rw [if_neg (by omega), if_neg (by omega)]
    by_cases h2 : s.size > 6
    · rw [decide_eq_true (by omega), if_pos (by omega)]; simp [spec_l2Number.j0]
    · rw [decide_eq_false (by omega), if_neg (by omega)]
      simp only [spec_l2Number.j0]
      rw [if_neg (by decide)]
      have := l2_l0 s s.size (k + 8 - s.size) 0 0 (by omega) (by omega) (by omega) (by decide)
      rw [show k + 8 - s.size + s.size + 1 = k + 9 from by omega] at this
      simpa using this
/-! the loops over the letters -/
theorem tw_at : ∀ (L : List Int) (q : Nat), q < (L.takeWhile isL).length → ∃ h' : q < L.length, isL (L[q]'h') = true
  | [], q, h => by simp at h
  | x :: l, q, h => by
    by_cases hx : isL x = true
    · rw [List.takeWhile_cons_of_pos hx] at h
      cases q with
      | zero => exact ⟨by simp, hx⟩
      | succ q =>
        obtain ⟨h', e⟩ := tw_at l q (by simpa using h)
        exact ⟨by simpa using h', by simpa using e⟩
    · rw [List.takeWhile_cons_of_neg hx] at h; simp at h
theorem tw_end (L : List Int) (h : (L.takeWhile isL).length < L.length) : isL (L[(L.takeWhile isL).length]'h) = false := by
  induction L with
  | nil => simp at h
  | cons x l ih =>
    by_cases hx : isL x = true
    · have e : ((x :: l).takeWhile isL).length = (l.takeWhile isL).length + 1 := by rw [List.takeWhile_cons_of_pos hx]; rfl
      have h2 : (l.takeWhile isL).length < l.length := by rw [e] at h; simpa using h
      have := ih h2
      simpa [e] using this
    · have e : ((x :: l).takeWhile isL).length = 0 := by rw [List.takeWhile_cons_of_neg hx]; rfl
      simpa [e] using hx
theorem spec_l0 (s : ByteArray) (r c : Int) (p q : Bool) (fr : Int) : ∀ (n k i : Nat), (∀ z, z < n → ∃ h : i + z < (bytesOf s).length, isL ((bytesOf s)[i + z]'h) = true) → (∀ h : i + n < (bytesOf s).length, isL ((bytesOf s)[i + n]'h) = false) → s.size ≤ 1048576 → i + n ≤ s.size →
    spec_ReadRef.l0 (k + n + 1) s (i : Int) fr r c p q = spec_ReadRef.j3 k s ((i + n : Nat) : Int) fr r c p q := by
  intro n
  induction n with
  | zero =>
    intro k i _ h2 hs hi
    have h2' := h2
    simp only [spec_ReadRef.l0, Nat.add_zero]
    by_cases h : i < s.size
    · have hl : i < (bytesOf s).length := by rw [bytesOf_length]; exact h
      have hb := at_bt s i hl
      have hn := h2' hl
      simp only [Nat.add_zero] at hn
      rw [hb] at hn
      unfold isL at hn
      have hn' := of_decide_eq_false hn
      rw [if_pos (by omega), if_pos (by omega)]
      by_cases a : bt s (i : Int) ≥ 65
      · rw [if_pos a, if_neg (by omega)]
      · rw [if_neg a]
    · rw [if_neg (by omega)]
  | succ n ih =>
    intro k i h1 h2 hs hi
    obtain ⟨hl, hn⟩ := h1 0 (by omega)
    simp only [Nat.add_zero] at hl hn
    rw [at_bt s i hl] at hn
    unfold isL at hn
    have hn' := of_decide_eq_true hn
    rw [bytesOf_length] at hl
    have ih' := ih k (i + 1) (fun z hz => by
      obtain ⟨h, e⟩ := h1 (z + 1) (by omega)
      exact ⟨by omega, by have e2 : i + 1 + z = i + (z + 1) := by omega
                          simp only [e2]; exact e⟩) (fun h => by
      have e2 : i + 1 + n = i + (n + 1) := by omega
      simp only [e2] at h ⊢; exact h2 h) hs (by omega)
    obtain ⟨m, hm⟩ : ∃ m, m = k + n + 1 := ⟨_, rfl⟩
    rw [show k + (n + 1) + 1 = m + 1 from by omega]
    rw [← hm] at ih'
    simp only [spec_ReadRef.l0]
    rw [if_pos (by omega), if_pos (by omega), if_pos (by omega), if_pos (by omega), wrap_id (by omega) (by omega), show (i : Int) + 1 = ((i + 1 : Nat) : Int) from by omega, ih']
    congr 1; omega
theorem impl_l0 (x s : ByteArray) (r c : Int) (p q : Bool) : ∀ (n k i : Nat), (∀ z, z < n → ∃ h : i + z < (bytesOf s).length, isL ((bytesOf s)[i + z]'h) = true) → (∀ h : i + n < (bytesOf s).length, isL ((bytesOf s)[i + n]'h) = false) → s.size ≤ 1048576 → i + n ≤ s.size →
    impl_ReadRef.l0 (k + n + 1) x s (i : Int) r c p q = impl_ReadRef.j2 k x s ((i + n : Nat) : Int) r c p q := by
  intro n
  induction n with
  | zero =>
    intro k i _ h2 hs hi
    have h2' := h2
    simp only [impl_ReadRef.l0, Nat.add_zero]
    by_cases h : i < s.size
    · have hl : i < (bytesOf s).length := by rw [bytesOf_length]; exact h
      have hb := at_bt s i hl
      have hn := h2' hl
      simp only [Nat.add_zero] at hn
      rw [hb] at hn
      unfold isL at hn
      have hn' := of_decide_eq_false hn
      rw [if_pos (by omega), if_pos (by omega)]
      by_cases a : bt s (i : Int) ≥ 65
      · rw [if_pos a, if_neg (by omega)]
      · rw [if_neg a]
    · rw [if_neg (by omega)]
  | succ n ih =>
    intro k i h1 h2 hs hi
    obtain ⟨hl, hn⟩ := h1 0 (by omega)
    simp only [Nat.add_zero] at hl hn
    rw [at_bt s i hl] at hn
    unfold isL at hn
    have hn' := of_decide_eq_true hn
    rw [bytesOf_length] at hl
    have ih' := ih k (i + 1) (fun z hz => by
      obtain ⟨h, e⟩ := h1 (z + 1) (by omega)
      exact ⟨by omega, by have e2 : i + 1 + z = i + (z + 1) := by omega
                          simp only [e2]; exact e⟩) (fun h => by
      have e2 : i + 1 + n = i + (n + 1) := by omega
      simp only [e2] at h ⊢; exact h2 h) hs (by omega)
    obtain ⟨m, hm⟩ : ∃ m, m = k + n + 1 := ⟨_, rfl⟩
    rw [show k + (n + 1) + 1 = m + 1 from by omega]
    rw [← hm] at ih'
    simp only [impl_ReadRef.l0]
    rw [if_pos (by omega), if_pos (by omega), if_pos (by omega), if_pos (by omega), wrap_id (by omega) (by omega), show (i : Int) + 1 = ((i + 1 : Nat) : Int) from by omega, ih']
    congr 1; omega
/-! what they read, in words of lists -/
theorem bytes_ext (s : ByteArray) (i j : Nat) : bytesOf (s.extract i j) = ((bytesOf s).drop i).take (j - i) := by
  unfold bytesOf
  rw [ByteArray.data_extract, Array.toList_extract, List.extract, List.map_take, List.map_drop]
def lettersOf (L : List Int) : List Int := (cutD L).takeWhile isL
def behindL (L : List Int) : List Int := (cutD L).drop (lettersOf L).length
def rowL (L : List Int) : List Int := cutD (behindL L)
/-- What is told of a row's number read. -/
def finV (s : ByteArray) (row : Int) : Int × Int × Bool × Bool × Bool :=
  if goodRefB row (numL (lettersOf (bytesOf s))) = true ∧ refTxt row (dolB (behindL (bytesOf s))) (dolB (bytesOf s)) (strOfNums (cnL (numL (lettersOf (bytesOf s))))) = s then (row, numL (lettersOf (bytesOf s)), dolB (behindL (bytesOf s)), dolB (bytesOf s), true) else (0, 0, false, false, false)
theorem refTxt_eq (row : Int) (a b : Bool) (n s : ByteArray) : ((refTxt row a b n).toList = s.toList) ↔ refTxt row a b n = s := by
  rw [toList_iff]; exact ⟨bytesOf_inj, fun h => by rw [h]⟩
theorem cn_le (c : Int) : (strOfNums (cnL c)).size ≤ 1000 := by
  rw [strOfNums_size]; unfold cnL; (repeat' split) <;> simp
theorem specJ5 (k : Nat) (s : ByteArray) (i c : Int) (j0 : Int) (a b : Bool) (R : List Int) (hi : 0 ≤ i) (hi2 : i ≤ s.size) (hR : (bytesOf s).drop i.toNat = R) :
    spec_ReadRef.j5 (k + 11) s i j0 c a b = some (if goodRefB (l2L R) c = true ∧ refTxt (l2L R) a b (strOfNums (cnL c)) = s then (l2L R, c, a, b, true) else (0, 0, false, false, false)) := by
  have hb : bytesOf (s.extract i.toNat s.size) = R := by
    rw [bytes_ext, ← hR]; exact List.take_of_length_le (by rw [List.length_drop, bytesOf_length]; omega)
  simp only [spec_ReadRef.j5]
  rw [if_pos hi, if_pos hi2, l2_is k, hb]
  simp only [Option.bind_some, specGoodRef_is]
  by_cases g : goodRefB (l2L R) c = true
  · rw [if_pos g, specRefText_is (k + 10) (l2L R) c a b g _ (colName_is (k + 6) c) (cn_le c)]
    simp only [Option.bind_some, refTxt_eq]
    by_cases e : refTxt (l2L R) a b (strOfNums (cnL c)) = s
    · rw [if_pos e, if_pos ⟨g, e⟩]
    · rw [if_neg e, if_neg (fun h => e h.2)]
  · rw [if_neg g, if_neg (fun h => g h.1)]
theorem dol_at (s : ByteArray) (i : Nat) (h : i < s.size) : dolB ((bytesOf s).drop i) = (bt s (i : Int) == 36) := by
  have hl : i < (bytesOf s).length := by rw [bytesOf_length]; exact h
  rw [List.drop_eq_getElem_cons hl, at_bt s i hl]
  unfold dolB
  by_cases e : bt s (i : Int) = 36
  · simp [e]
  · simp [e]
theorem dol_end (s : ByteArray) (i : Nat) (h : s.size ≤ i) : dolB ((bytesOf s).drop i) = false := by
  rw [List.drop_eq_nil_of_le (by rw [bytesOf_length]; exact h)]; rfl
theorem cut_drop (L : List Int) : cutD L = L.drop (if dolB L then 1 else 0) := by
  unfold cutD; split <;> simp
theorem cut_at (s : ByteArray) (i : Nat) : cutD ((bytesOf s).drop i) = (bytesOf s).drop (i + if dolB ((bytesOf s).drop i) then 1 else 0) := by
  rw [cut_drop, List.drop_drop]
theorem dol_lt (s : ByteArray) (i : Nat) (h : dolB ((bytesOf s).drop i) = true) : i < s.size := by
  rcases Nat.lt_or_ge i s.size with h' | h'
  · exact h'
  · rw [dol_end s i h'] at h; cases h
theorem specJ3 (k : Nat) (s : ByteArray) (i fr : Nat) (j0 c0 : Int) (b : Bool) (h1 : fr ≤ i) (h2 : i ≤ s.size) (hs : s.size ≤ 1048576) :
    spec_ReadRef.j3 (k + 15) s (i : Int) (fr : Int) j0 c0 false b =
      some (if goodRefB (l2L (cutD ((bytesOf s).drop i))) (numL (((bytesOf s).drop fr).take (i - fr))) = true ∧ refTxt (l2L (cutD ((bytesOf s).drop i))) (dolB ((bytesOf s).drop i)) b (strOfNums (cnL (numL (((bytesOf s).drop fr).take (i - fr))))) = s then (l2L (cutD ((bytesOf s).drop i)), numL (((bytesOf s).drop fr).take (i - fr)), dolB ((bytesOf s).drop i), b, true) else (0, 0, false, false, false)) := by
  simp only [spec_ReadRef.j3]
  rw [if_pos (by omega), if_pos (by omega), if_pos (by omega), specNumber_is k, bytes_ext, Int.toNat_natCast, Int.toNat_natCast]
  simp only [Option.bind_some]
  by_cases h : i < s.size
  · rw [if_pos (by omega), if_pos (by omega), ← dol_at s i h]
    simp only [spec_ReadRef.j4]
    by_cases d : dolB ((bytesOf s).drop i) = true
    · rw [if_pos d, wrap_id (by omega) (by omega), specJ5 (k + 2) s _ _ j0 true b (cutD ((bytesOf s).drop i)) (by omega) (by omega) (by rw [cut_at, d]; congr 1), d]
    · rw [if_neg d, specJ5 (k + 2) s _ _ j0 false b (cutD ((bytesOf s).drop i)) (by omega) (by omega) (by rw [cut_at, if_neg d]; rw [Int.toNat_natCast]; rfl)]
      rw [show dolB ((bytesOf s).drop i) = false from by simpa using d]
  · rw [if_neg (by omega)]
    have d := dol_end s i (by omega)
    simp only [spec_ReadRef.j4]
    rw [if_neg (by decide), specJ5 (k + 2) s _ _ j0 false b (cutD ((bytesOf s).drop i)) (by omega) (by omega) (by rw [cut_at, d]; rw [Int.toNat_natCast]; rfl), d]
theorem letters_h1 (s : ByteArray) (i : Nat) (hc : cutD (bytesOf s) = (bytesOf s).drop i) : ∀ z, z < (lettersOf (bytesOf s)).length → ∃ h : i + z < (bytesOf s).length, isL ((bytesOf s)[i + z]'h) = true := by
  intro z hz
  obtain ⟨h, e⟩ := tw_at _ z hz
  simp only [hc] at h e
  have h' : i + z < (bytesOf s).length := by rw [List.length_drop] at h; omega
  exact ⟨h', by rw [List.getElem_drop] at e; exact e⟩
theorem letters_h2 (s : ByteArray) (i : Nat) (hc : cutD (bytesOf s) = (bytesOf s).drop i) : ∀ h : i + (lettersOf (bytesOf s)).length < (bytesOf s).length, isL ((bytesOf s)[i + (lettersOf (bytesOf s)).length]'h) = false := by
  intro h
  have := tw_end (cutD (bytesOf s)) (by show (lettersOf (bytesOf s)).length < _; rw [hc, List.length_drop]; omega)
  simp only [hc, List.getElem_drop] at this
  have e : ((bytesOf s).drop i).takeWhile isL = lettersOf (bytesOf s) := by unfold lettersOf; rw [hc]
  simp only [e] at this
  exact this
theorem letters_take (s : ByteArray) (i : Nat) (hc : cutD (bytesOf s) = (bytesOf s).drop i) : ((bytesOf s).drop i).take (lettersOf (bytesOf s)).length = lettersOf (bytesOf s) := by
  have := List.takeWhile_prefix isL (l := cutD (bytesOf s))
  unfold lettersOf
  rw [← hc]
  exact (List.prefix_iff_eq_take.1 this).symm
theorem letters_le (s : ByteArray) (i : Nat) (hc : cutD (bytesOf s) = (bytesOf s).drop i) : (lettersOf (bytesOf s)).length ≤ s.size - i := by
  have := tw_le (cutD (bytesOf s))
  rw [hc, List.length_drop, bytesOf_length] at this
  unfold lettersOf
  rw [hc]; exact this
theorem specL0_all (s : ByteArray) (i : Nat) (hs : s.size ≤ 1048576) (hi : i ≤ s.size) (hc : cutD (bytesOf s) = (bytesOf s).drop i) (k : Nat) (hk : s.size + 50 ≤ k) :
    spec_ReadRef.l0 k s (i : Int) (i : Int) 0 0 false (dolB (bytesOf s)) = some (finV s (l2L (rowL (bytesOf s)))) := by
  have hl := letters_le s i hc
  have := spec_l0 s 0 0 false (dolB (bytesOf s)) (i : Int) (lettersOf (bytesOf s)).length (k - (lettersOf (bytesOf s)).length - 1) i (letters_h1 s i hc) (letters_h2 s i hc) hs (by omega)
  rw [show k - (lettersOf (bytesOf s)).length - 1 + (lettersOf (bytesOf s)).length + 1 = k from by omega] at this
  rw [this]
  have h3 := specJ3 (k - (lettersOf (bytesOf s)).length - 16) s (i + (lettersOf (bytesOf s)).length) i 0 0 (dolB (bytesOf s)) (by omega) (by omega) hs
  rw [show k - (lettersOf (bytesOf s)).length - 16 + 15 = k - (lettersOf (bytesOf s)).length - 1 from by omega] at h3
  rw [h3]
  rw [show i + (lettersOf (bytesOf s)).length - i = (lettersOf (bytesOf s)).length from by omega, letters_take s i hc]
  have e : behindL (bytesOf s) = (bytesOf s).drop (i + (lettersOf (bytesOf s)).length) := by unfold behindL; rw [hc, List.drop_drop]
  unfold finV rowL
  rw [e]
theorem specReadRef_is (s : ByteArray) (hs : s.size ≤ 1048576) : spec_ReadRef.f (s.size + 60) s = some (finV s (l2L (rowL (bytesOf s)))) := by
  unfold spec_ReadRef.f
  by_cases h : 0 < s.size
  · rw [if_pos (by omega)]
    have hd := dol_at s 0 h
    simp only [List.drop_zero] at hd
    rw [show ((0 : Nat) : Int) = 0 from rfl] at hd
    rw [← hd]
    show spec_ReadRef.j0 (s.size + 59 + 1) _ _ _ _ _ _ _ = _
    simp only [spec_ReadRef.j0]
    by_cases d : dolB (bytesOf s) = true
    · rw [if_pos d, wrap_id (by omega) (by omega)]
      show spec_ReadRef.j1 (s.size + 58 + 1) _ _ _ _ _ _ = _
      simp only [spec_ReadRef.j1]
      have := specL0_all s 1 hs (by omega) (by rw [cut_drop, d]; rfl) (s.size + 58) (by omega)
      rw [d] at this
      exact this
    · rw [if_neg d]
      show spec_ReadRef.j1 (s.size + 58 + 1) _ _ _ _ _ _ = _
      simp only [spec_ReadRef.j1]
      have := specL0_all s 0 hs (by omega) (by rw [cut_drop, if_neg d]) (s.size + 58) (by omega)
      rw [show dolB (bytesOf s) = false from by simpa using d] at this
      exact this
  · rw [if_neg (by omega)]
    have d : dolB (bytesOf s) = false := by have := dol_end s 0 (by omega); simpa using this
    show spec_ReadRef.j0 (s.size + 59 + 1) _ _ _ _ _ _ _ = _
    simp only [spec_ReadRef.j0]
    rw [if_neg (by decide)]
    show spec_ReadRef.j1 (s.size + 58 + 1) _ _ _ _ _ _ = _
    simp only [spec_ReadRef.j1]
    have := specL0_all s 0 hs (by omega) (by rw [cut_drop, d]; rfl) (s.size + 58) (by omega)
    rw [d] at this
    exact this
/-! the program's -/
theorem hp_dol (s : ByteArray) : strings_HasPrefix.f s (⟨#[36]⟩ : ByteArray) = some (dolB (bytesOf s)) := by
  unfold strings_HasPrefix.f Lib.hasPrefix bytesOf
  congr 1
  show List.isPrefixOf [36] s.data.toList = _
  cases s.data.toList with
  | nil => rfl
  | cons x l =>
    simp only [List.isPrefixOf, Bool.and_true, List.map_cons, dolB]
    by_cases h : x = 36
    · subst h; rfl
    · have h1 : (36 == x) = false := by simpa using fun e => h e.symm
      have h2 : ¬ ((x.toNat : Int) = 36) := fun e => h (by have := UInt8.toNat_inj.1 (show x.toNat = (36 : UInt8).toNat from by have e2 : (36 : UInt8).toNat = 36 := rfl; omega); exact this)
      rw [h1, decide_eq_false h2]
def rowI (R : List Int) : Int := (atoiV (strOfNums R)).1
theorem atoi_is (x : ByteArray) (R : List Int) (h : bytesOf x = R) (hs : x.size ≤ 1000) : strconv_Atoi.f x = some (rowI R, (atoiV (strOfNums R)).2) := by
  unfold strconv_Atoi.f rowI
  rw [if_pos (by omega), ← h, strOfNums_bytesOf]
theorem implJ3R (k : Nat) (s x : ByteArray) (r0 c : Int) (a b : Bool) (R : List Int) (hR : bytesOf x = R) (hx : x.size ≤ 1000) :
    impl_ReadRef.j3 (k + 7) s x r0 c a b = some (if goodRefB (rowI R) c = true ∧ refTxt (rowI R) a b (strOfNums (cnL c)) = s then (rowI R, c, a, b, true) else (0, 0, false, false, false)) := by
  simp only [impl_ReadRef.j3]
  rw [atoi_is x R hR hx]
  simp only [Option.bind_some, implGoodRef_is]
  by_cases g : goodRefB (rowI R) c = true
  · rw [if_pos g, implRefText_is (k + 5) (rowI R) c a b g _ (by rw [← colName_same]; exact colName_is (k + 1) c) (cn_le c)]
    simp only [Option.bind_some, refTxt_eq]
    by_cases e : refTxt (rowI R) a b (strOfNums (cnL c)) = s
    · rw [if_pos e, if_pos ⟨g, e⟩]
    · rw [if_neg e, if_neg (fun h => e h.2)]
  · rw [if_neg g, if_neg (fun h => g h.1)]
theorem implJ2R (k : Nat) (s x : ByteArray) (n : Nat) (r0 c0 : Int) (b : Bool) (hn : n ≤ x.size) (hx : x.size ≤ 1000) :
    impl_ReadRef.j2 (k + 8) s x (n : Int) r0 c0 false b =
      some (if goodRefB (rowI (cutD ((bytesOf x).drop n))) (numL ((bytesOf x).take n)) = true ∧ refTxt (rowI (cutD ((bytesOf x).drop n))) (dolB ((bytesOf x).drop n)) b (strOfNums (cnL (numL ((bytesOf x).take n)))) = s then (rowI (cutD ((bytesOf x).drop n)), numL ((bytesOf x).take n), dolB ((bytesOf x).drop n), b, true) else (0, 0, false, false, false)) := by
  have e1 : bytesOf (x.extract 0 n) = (bytesOf x).take n := by rw [bytes_ext]; simp
  have e2 : bytesOf (x.extract n x.size) = (bytesOf x).drop n := by
    rw [bytes_ext]; exact List.take_of_length_le (by rw [List.length_drop, bytesOf_length]; omega)
  have z2 : (x.extract n x.size).size = x.size - n := by rw [ByteArray.size_extract]; omega
  simp only [impl_ReadRef.j2]
  rw [if_pos (by omega), if_pos (by omega), Int.toNat_natCast, implNumber_is (k + 2), e1, hp_dol, e2]
  simp only [Option.bind_some]
  by_cases d : dolB ((bytesOf x).drop n) = true
  · have hlt := dol_lt x n d
    rw [if_pos d, if_pos (by omega)]
    have e3 : bytesOf ((x.extract n x.size).extract 1 (x.extract n x.size).size) = cutD ((bytesOf x).drop n) := by
      rw [bytes_ext, e2, cut_drop, d, z2]
      exact List.take_of_length_le (by rw [List.length_drop, List.length_drop, bytesOf_length]; show _ - 1 ≤ _; omega)
    rw [implJ3R k s _ r0 _ true b _ e3 (by rw [ByteArray.size_extract, z2]; omega), d]
  · rw [if_neg d]
    have e3 : bytesOf (x.extract n x.size) = cutD ((bytesOf x).drop n) := by rw [e2, cut_drop, if_neg d, List.drop_zero]
    rw [implJ3R k s _ r0 _ false b _ e3 (by omega), show dolB ((bytesOf x).drop n) = false from by simpa using d]
theorem implRest (s x : ByteArray) (hx : x.size ≤ 1000) (b : Bool) (hb : dolB (bytesOf s) = b) (hc : bytesOf x = cutD (bytesOf s)) (k : Nat) (hk : x.size + 50 ≤ k) :
    impl_ReadRef.j0 (k + 1) s x 0 0 false b = some (finV s (rowI (rowL (bytesOf s)))) := by
  simp only [impl_ReadRef.j0]
  have h1 : ∀ z, z < (lettersOf (bytesOf s)).length → ∃ h : 0 + z < (bytesOf x).length, isL ((bytesOf x)[0 + z]'h) = true := by
    intro z hz
    obtain ⟨h, e⟩ := tw_at _ z hz
    simp only [← hc] at h e
    exact ⟨by simpa using h, by simpa using e⟩
  have h2 : ∀ h : 0 + (lettersOf (bytesOf s)).length < (bytesOf x).length, isL ((bytesOf x)[0 + (lettersOf (bytesOf s)).length]'h) = false := by
    intro h
    have := tw_end (cutD (bytesOf s)) (by show (lettersOf (bytesOf s)).length < _; rw [← hc]; omega)
    have e : (cutD (bytesOf s)).takeWhile isL = lettersOf (bytesOf s) := rfl
    simp only [e] at this
    simp only [← hc] at this
    simpa using this
  have hl : (lettersOf (bytesOf s)).length ≤ x.size := by
    have := tw_le (cutD (bytesOf s)); rw [← bytesOf_length x, hc]; exact this
  have h0 := impl_l0 s x 0 0 false b (lettersOf (bytesOf s)).length (k - (lettersOf (bytesOf s)).length - 1) 0 h1 h2 (by omega) (by omega)
  rw [show k - (lettersOf (bytesOf s)).length - 1 + (lettersOf (bytesOf s)).length + 1 = k from by omega] at h0
  rw [show ((0 : Nat) : Int) = 0 from rfl] at h0
  rw [h0, Nat.zero_add]
  have h3 := implJ2R (k - (lettersOf (bytesOf s)).length - 9) s x (lettersOf (bytesOf s)).length 0 0 b hl hx
  rw [show k - (lettersOf (bytesOf s)).length - 9 + 8 = k - (lettersOf (bytesOf s)).length - 1 from by omega] at h3
  have e1 : (bytesOf x).take (lettersOf (bytesOf s)).length = lettersOf (bytesOf s) := by
    rw [hc]; exact (List.prefix_iff_eq_take.1 (List.takeWhile_prefix isL)).symm
  have e2 : (bytesOf x).drop (lettersOf (bytesOf s)).length = behindL (bytesOf s) := by unfold behindL; rw [hc]
  rw [h3, e1, e2]
  unfold finV rowL
  rw [hb]
theorem implReadRef_is (s : ByteArray) (hs : s.size ≤ 12) : impl_ReadRef.f (s.size + 60) s = some (finV s (rowI (rowL (bytesOf s)))) := by
  unfold impl_ReadRef.f
  rw [if_neg (by omega), hp_dol]
  simp only [Option.bind_some]
  by_cases d : dolB (bytesOf s) = true
  · have hlt : 0 < s.size := by have := dol_lt s 0 (by simpa using d); exact this
    rw [if_pos d, if_pos (by omega)]
    have z : (s.extract 1 s.size).size = s.size - 1 := by rw [ByteArray.size_extract]; omega
    have e : bytesOf (s.extract 1 s.size) = cutD (bytesOf s) := by
      rw [bytes_ext, cut_drop, d]
      exact List.take_of_length_le (by rw [List.length_drop, bytesOf_length]; exact Nat.le_refl _)
    exact implRest s _ (by omega) true d e (s.size + 59) (by omega)
  · rw [if_neg d]
    exact implRest s s (by omega) false (by simpa using d) (by rw [cut_drop, if_neg d, List.drop_zero]) (s.size + 59) (by omega)

/-! a reference's own text is read back -/
def txtL (r : Int) : List Int := bytesOf (txt r)
theorem bytes_app (x y : ByteArray) : bytesOf (x ++ y) = bytesOf x ++ bytesOf y := by
  unfold bytesOf; rw [ByteArray.data_append]; simp
theorem bytes_dol (b : Bool) : bytesOf (if b then (⟨#[36]⟩ : ByteArray) else ⟨#[]⟩) = dolL b := by cases b <;> rfl
theorem cn_letters (c : Int) : ∀ x ∈ cnL c, isL x = true := by
  intro x hx
  unfold isL
  refine decide_eq_true ?_
  unfold cnL at hx
  split at hx
  · cases hx
  · split at hx
    · cases hx
    · split at hx
      · simp at hx; omega
      · simp at hx; omega
theorem txtL_nat (u : Nat) : txtL (u : Int) = (Lib.decDigits u).map fun b => (b.toNat : Int) := by
  have e : Lib.itoa (u : Int) = Lib.decDigits u := by unfold Lib.itoa; rw [if_neg (by omega)]; simp
  unfold txtL bytesOf txt; rw [e]
theorem txtL_digit (u : Nat) : ∀ x ∈ txtL (u : Int), 48 ≤ x ∧ x ≤ 57 := by
  intro x hx
  rw [txtL_nat, Lib.decDigits_eq, List.map_map] at hx
  obtain ⟨t, _, rfl⟩ := List.mem_map.1 hx
  simp only [Function.comp, Lib.dg, UInt8.toNat_ofNat']
  omega
theorem tw_none (l : List Int) (a : Bool) (h : ∀ x ∈ l, 48 ≤ x ∧ x ≤ 57) : (dolL a ++ l).takeWhile isL = [] := by
  cases a
  · cases l with
    | nil => rfl
    | cons x l =>
      have := h x (by simp)
      show (x :: l).takeWhile isL = []
      rw [List.takeWhile_cons_of_neg]
      unfold isL; simp; omega
  · show (36 :: l).takeWhile isL = []
    rw [List.takeWhile_cons_of_neg (by decide)]
theorem row_of (s : ByteArray) (r c : Int) (hr : 1 ≤ r) (h : refTxt r (dolB (behindL (bytesOf s))) (dolB (bytesOf s)) (strOfNums (cnL c)) = s) : rowL (bytesOf s) = txtL r := by
  obtain ⟨u, rfl⟩ : ∃ u : Nat, r = u := ⟨r.toNat, by omega⟩
  have hL : bytesOf s = dolL (dolB (bytesOf s)) ++ (cnL c ++ (dolL (dolB (behindL (bytesOf s))) ++ txtL (u : Int))) := by
    conv => lhs; rw [← h]
    unfold refTxt
    rw [bytes_app, bytes_app, bytes_app, bytes_dol, bytes_dol, bytesOf_strOfNums _ (cnL_ok c)]
    unfold txtL
    simp only [List.append_assoc]
  have hX : cutD (bytesOf s) = cnL c ++ (dolL (dolB (behindL (bytesOf s))) ++ txtL (u : Int)) := by
    have := dol_split (bytesOf s)
    exact List.append_cancel_left (this.symm.trans hL)
  have hlet : lettersOf (bytesOf s) = cnL c := by
    unfold lettersOf
    rw [hX, List.takeWhile_append_of_pos (cn_letters c), tw_none _ _ (txtL_digit u), List.append_nil]
  have hbeh : behindL (bytesOf s) = dolL (dolB (behindL (bytesOf s))) ++ txtL (u : Int) := by
    conv => lhs; unfold behindL
    rw [hlet, hX, List.drop_left]
  unfold rowL
  exact List.append_cancel_left ((dol_split (behindL (bytesOf s))).symm.trans hbeh)
theorem toNat_dig (d : Nat) (h : d ≤ 9) : ((UInt8.ofNat (48 + d)).toNat : Int) = 48 + d := by
  rw [UInt8.toNat_ofNat']; omega
theorem l2_txt (r : Int) (h1 : 1 ≤ r) (h2 : r ≤ 1000) : l2L (txtL r) = r := by
  obtain ⟨u, rfl⟩ : ∃ u : Nat, r = u := ⟨r.toNat, by omega⟩
  rw [txtL_nat]
  have st : ∀ (acc : Int) (d : Nat) (l : List Int), d ≤ 9 → l2go acc ((48 + (d : Int)) :: l) = l2go (acc * 10 + d) l := by
    intro acc d l hd
    show (if 48 ≤ 48 + (d : Int) ∧ 48 + (d : Int) ≤ 57 then l2go (acc * 10 + (48 + (d : Int) - 48)) l else -1) = _
    rw [if_pos (by omega), show (48 + (d : Int) - 48) = d from by omega]
  by_cases a : u < 10
  · rw [Lib.decDigits, dif_pos a]
    simp only [List.map_cons, List.map_nil, toNat_dig u (by omega)]
    show l2go 0 [48 + (u : Int)] = _
    rw [st 0 u [] (by omega)]; show (0 : Int) * 10 + u = u; omega
  · rw [Lib.decDigits, dif_neg a]
    by_cases b : u < 100
    · rw [Lib.decDigits, dif_pos (by omega)]
      simp only [List.map_append, List.map_cons, List.map_nil, toNat_dig (u / 10) (by omega), toNat_dig (u % 10) (by omega)]
      show l2go 0 [48 + ((u / 10 : Nat) : Int), 48 + ((u % 10 : Nat) : Int)] = _
      rw [st 0 _ _ (by omega), st _ _ _ (by omega)]; show ((0 : Int) * 10 + (u / 10 : Nat)) * 10 + (u % 10 : Nat) = u; omega
    · rw [Lib.decDigits, dif_neg (by omega)]
      by_cases c : u < 1000
      · rw [Lib.decDigits, dif_pos (by omega)]
        simp only [List.map_append, List.map_cons, List.map_nil, toNat_dig (u / 10 / 10) (by omega), toNat_dig (u / 10 % 10) (by omega), toNat_dig (u % 10) (by omega)]
        show l2go 0 [48 + ((u / 10 / 10 : Nat) : Int), 48 + ((u / 10 % 10 : Nat) : Int), 48 + ((u % 10 : Nat) : Int)] = _
        rw [st 0 _ _ (by omega), st _ _ _ (by omega), st _ _ _ (by omega)]; show (((0 : Int) * 10 + (u / 10 / 10 : Nat)) * 10 + (u / 10 % 10 : Nat)) * 10 + (u % 10 : Nat) = u; omega
      · obtain rfl : u = 1000 := by omega
        rw [Lib.decDigits, dif_neg (by decide), Lib.decDigits, dif_pos (by decide)]
        rfl
theorem decFrom_snoc : ∀ (l : List UInt8) (acc n : Nat) (b : UInt8) (d : Nat), Lib.decFrom acc l = some n → Lib.digitVal b = some d → Lib.decFrom acc (l ++ [b]) = some (n * 10 + d)
  | [], acc, n, b, d, h, hb => by
    simp only [Lib.decFrom, Option.some.injEq] at h
    subst h
    simp [Lib.decFrom, hb]
  | a :: t, acc, n, b, d, h, hb => by
    simp only [Lib.decFrom, List.cons_append] at h ⊢
    cases ha : Lib.digitVal a with
    | none => simp [ha] at h
    | some e => simp only [ha] at h ⊢; exact decFrom_snoc t _ n b d h hb
theorem digitVal_dig (d : Nat) (h : d ≤ 9) : Lib.digitVal (UInt8.ofNat (48 + d)) = some d := by
  have e : (UInt8.ofNat (48 + d)).toNat = 48 + d := by rw [UInt8.toNat_ofNat']; omega
  unfold Lib.digitVal
  rw [e, if_pos (by omega)]; congr 1; omega
theorem decFrom_dec (u : Nat) : Lib.decFrom 0 (Lib.decDigits u) = some u := by
  induction u using Nat.strongRecOn with
  | _ u ih =>
    by_cases h : u < 10
    · rw [Lib.decDigits, dif_pos h]
      simp only [Lib.decFrom]; rw [digitVal_dig u (by omega)]; simp [Lib.decFrom]
    · rw [Lib.decDigits, dif_neg h, decFrom_snoc _ _ _ _ _ (ih (u / 10) (by omega)) (digitVal_dig (u % 10) (by omega))]
      congr 1; omega
theorem atoi_dec (u : Nat) (hl : (Lib.decDigits u).length ≤ 18) : Lib.atoiAll (Lib.decDigits u) = .ok (u : Int) := by
  rw [Lib.atoiAll_short _ hl]
  have hd := decFrom_dec u
  have hm : ∀ b ∈ Lib.decDigits u, 48 ≤ b.toNat := by
    intro b hb
    rw [Lib.decDigits_eq] at hb
    obtain ⟨t, _, rfl⟩ := List.mem_map.1 hb
    simp only [Lib.dg, UInt8.toNat_ofNat']; omega
  have hn : (Lib.decDigits u) ≠ [] := by
    intro h; have := Lib.decDigits_length u; rw [h] at this; have := Lib.nDigits_pos u; simp at *; omega
  revert hd hm hn
  generalize Lib.decDigits u = l
  intro hd hm hn
  cases l with
  | nil => exact absurd rfl hn
  | cons b r =>
    have h48 := hm b (by simp)
    have n1 : (b == 45) = false := by
      simp; intro e; subst e; exact absurd h48 (by decide)
    have n2 : (b == 43) = false := by
      simp; intro e; subst e; exact absurd h48 (by decide)
    show Lib.NumEnd.ofOption (if b == 45 then _ else if b == 43 then _ else (Lib.decNat (b :: r)).map fun (m : Nat) => (m : Int)) = _
    rw [n1, n2]
    simp only [Bool.false_eq_true, if_false]
    have e : Lib.decNat (b :: r) = some u := by unfold Lib.decNat; simp [hd]
    rw [e]; rfl
theorem rowI_txt (r : Int) (h1 : 1 ≤ r) (h2 : r ≤ 1000) : rowI (txtL r) = r := by
  obtain ⟨u, rfl⟩ : ∃ u : Nat, r = u := ⟨r.toNat, by omega⟩
  have e : Lib.itoa (u : Int) = Lib.decDigits u := by unfold Lib.itoa; rw [if_neg (by omega)]; simp
  have hl : (Lib.decDigits u).length ≤ 18 := by
    rw [Lib.decDigits_length]
    by_cases a : u < 10
    · rw [Lib.nDigits_small a]; omega
    · rw [Lib.nDigits_big a]
      by_cases b : u / 10 < 10
      · rw [Lib.nDigits_small b]; omega
      · rw [Lib.nDigits_big b]
        by_cases c : u / 10 / 10 < 10
        · rw [Lib.nDigits_small c]; omega
        · rw [Lib.nDigits_big c, Lib.nDigits_small (by omega)]; omega
  unfold rowI txtL
  rw [strOfNums_bytesOf]
  unfold atoiV
  have e2 : (txt (u : Int)).data.toList = Lib.decDigits u := by unfold txt; rw [e]
  rw [e2, atoi_dec u hl]
theorem good_row {r c : Int} (h : goodRefB r c = true) : 1 ≤ r ∧ r ≤ 1000 := by unfold goodRefB at h; have := of_decide_eq_true h; omega
theorem fin_same (s : ByteArray) : finV s (l2L (rowL (bytesOf s))) = finV s (rowI (rowL (bytesOf s))) := by
  by_cases h : goodRefB (l2L (rowL (bytesOf s))) (numL (lettersOf (bytesOf s))) = true ∧ refTxt (l2L (rowL (bytesOf s))) (dolB (behindL (bytesOf s))) (dolB (bytesOf s)) (strOfNums (cnL (numL (lettersOf (bytesOf s))))) = s
  · have hb := good_row h.1
    have e := row_of s _ _ hb.1 h.2
    have e2 := rowI_txt _ hb.1 hb.2
    rw [← e] at e2
    rw [e2]
  · by_cases h' : goodRefB (rowI (rowL (bytesOf s))) (numL (lettersOf (bytesOf s))) = true ∧ refTxt (rowI (rowL (bytesOf s))) (dolB (behindL (bytesOf s))) (dolB (bytesOf s)) (strOfNums (cnL (numL (lettersOf (bytesOf s))))) = s
    · have hb := good_row h'.1
      have e := row_of s _ _ hb.1 h'.2
      have e2 := l2_txt _ hb.1 hb.2
      rw [← e] at e2
      rw [e2]
    · unfold finV; rw [if_neg h, if_neg h']
theorem refTxt_le (r c : Int) (a b : Bool) (h : goodRefB r c = true) : (refTxt r a b (strOfNums (cnL c))).size ≤ 12 := by
  have hb := good_row h
  have z0 : (⟨#[]⟩ : ByteArray).size = 0 := rfl
  have z1 : (⟨#[36]⟩ : ByteArray).size = 1 := rfl
  have ht : (txt r).size ≤ 4 := by
    obtain ⟨u, rfl⟩ : ∃ u : Nat, r = u := ⟨r.toNat, by omega⟩
    rw [txt_size]
    by_cases a : u < 10
    · rw [Lib.nDigits_small a]; omega
    · rw [Lib.nDigits_big a]
      by_cases b : u / 10 < 10
      · rw [Lib.nDigits_small b]; omega
      · rw [Lib.nDigits_big b]
        by_cases c : u / 10 / 10 < 10
        · rw [Lib.nDigits_small c]; omega
        · rw [Lib.nDigits_big c, Lib.nDigits_small (by omega)]; omega
  have hc : (strOfNums (cnL c)).size ≤ 2 := by rw [strOfNums_size]; unfold cnL; (repeat' split) <;> simp
  unfold refTxt
  simp only [ByteArray.size_append]
  cases a <;> cases b <;> simp only [if_true, if_false, Bool.false_eq_true, z0, z1] <;> omega
theorem implReadRef_all (s : ByteArray) : impl_ReadRef.f (s.size + 60) s = some (finV s (l2L (rowL (bytesOf s)))) := by
  by_cases h : s.size ≤ 12
  · rw [implReadRef_is s h, fin_same]
  · unfold impl_ReadRef.f
    rw [if_pos (by omega)]
    unfold finV
    rw [if_neg (fun hh => h (by have := refTxt_le _ _ (dolB (behindL (bytesOf s))) (dolB (bytesOf s)) hh.1; rw [hh.2] at this; exact this))]

/-! Reading a reference told from a place: what either takes, it holds against the text of what it read; and each reads every good reference's text as that reference. -/
def pB (n m : Int) (fix : Bool) : ByteArray := if fix = true then txt n else if n = m then (⟨#[]⟩ : ByteArray) else (⟨#[91]⟩ : ByteArray) ++ (txt (n - m) ++ (⟨#[93]⟩ : ByteArray))
theorem nDig4 (u : Nat) (h : u ≤ 5000) : Lib.nDigits u ≤ 4 := by
  by_cases a : u < 10
  · rw [Lib.nDigits_small a]; omega
  · rw [Lib.nDigits_big a]
    by_cases b : u / 10 < 10
    · rw [Lib.nDigits_small b]; omega
    · rw [Lib.nDigits_big b]
      by_cases c : u / 10 / 10 < 10
      · rw [Lib.nDigits_small c]; omega
      · rw [Lib.nDigits_big c, Lib.nDigits_small (by omega)]; omega
theorem txt5 (n : Int) (h1 : -5000 ≤ n) (h2 : n ≤ 5000) : (txt n).size ≤ 5 := by
  rcases Int.lt_or_le n 0 with h | h
  · obtain ⟨u, hu⟩ : ∃ u : Nat, -n = u := ⟨(-n).toNat, by omega⟩
    rw [txt_neg n h, ByteArray.size_append, hu, txt_size]
    have := nDig4 u (by omega)
    show 1 + _ ≤ 5; omega
  · obtain ⟨u, rfl⟩ : ∃ u : Nat, n = u := ⟨n.toNat, by omega⟩
    rw [txt_size]; have := nDig4 u (by omega); omega
theorem pB_le (n m : Int) (fix : Bool) (h1 : -2000 ≤ n) (h2 : n ≤ 2000) (h3 : -2000 ≤ m) (h4 : m ≤ 2000) : (pB n m fix).size ≤ 7 := by
  have z1 : (⟨#[91]⟩ : ByteArray).size = 1 := rfl
  have z3 : (⟨#[93]⟩ : ByteArray).size = 1 := rfl
  have z0 : (⟨#[]⟩ : ByteArray).size = 0 := rfl
  have a := txt5 n (by omega) (by omega)
  have b := txt5 (n - m) (by omega) (by omega)
  unfold pB
  split
  · omega
  · split
    · omega
    · simp only [ByteArray.size_append, z1, z3]; omega
theorem by_is (a : ByteArray) (ha : a.size ≤ 10) (n m : Int) (fix : Bool) (h1 : -2000 ≤ n) (h2 : n ≤ 2000) (h3 : -2000 ≤ m) (h4 : m ≤ 2000) :
    spec_l3By.f a n m fix = some (a ++ pB n m fix) ∧ impl_partBy.f a n fix m = some (a ++ pB n m fix) := by
  have z1 : (⟨#[91]⟩ : ByteArray).size = 1 := rfl
  have z2 : (⟨#[91, 45]⟩ : ByteArray).size = 2 := rfl
  have z3 : (⟨#[93]⟩ : ByteArray).size = 1 := rfl
  have z4 : (⟨#[91, 45]⟩ : ByteArray) = (⟨#[91]⟩ : ByteArray) ++ (⟨#[45]⟩ : ByteArray) := rfl
  have hw : wrap64 (n - m) = n - m := wrap_id (by omega) (by omega)
  have ln := txt_le n (by omega) (by omega)
  have ld := txt_le (n - m) (by omega) (by omega)
  have le := txt_le (-(n - m)) (by omega) (by omega)
  have e0 : a ++ (⟨#[]⟩ : ByteArray) = a := ba_ext (by rw [ByteArray.data_append]; simp)
  unfold spec_l3By.f impl_partBy.f pB
  cases fix
  · simp only [Bool.false_eq_true, if_false]
    by_cases he : n = m
    · rw [if_pos he, if_pos he, if_pos he, e0]; exact ⟨rfl, rfl⟩
    · rw [if_neg he, if_neg he, if_neg he, hw]
      have hi : (if a.size + 1 ≤ 9223372036854775807 then (strconv_Itoa.f (n - m)).bind fun t280 => if (a ++ (⟨#[91]⟩ : ByteArray)).size + t280.size ≤ 9223372036854775807 then (if ((a ++ (⟨#[91]⟩ : ByteArray)) ++ t280).size + 1 ≤ 9223372036854775807 then some (((a ++ (⟨#[91]⟩ : ByteArray)) ++ t280) ++ (⟨#[93]⟩ : ByteArray)) else none) else none else none) = some (a ++ ((⟨#[91]⟩ : ByteArray) ++ (txt (n - m) ++ (⟨#[93]⟩ : ByteArray)))) := by
        rw [if_pos (by omega), itoa_is (n - m) (by omega) (by omega)]
        simp only [Option.bind_some, ByteArray.size_append, z1]
        rw [if_pos (by omega), if_pos (by omega)]
        simp only [ba_assoc]
      refine ⟨?_, hi⟩
      by_cases hlt : n - m < 0
      · rw [if_pos hlt, if_pos (by omega), wrap_id (x := -(n - m)) (by omega) (by omega), l1Num_is (-(n - m)) (by omega) (by omega)]
        simp only [Option.bind_some, ByteArray.size_append, z2]
        rw [if_pos (by omega), if_pos (by omega), txt_neg (n - m) hlt, z4]
        simp only [ba_assoc]
      · rw [if_neg hlt, if_pos (by omega), l1Num_is (n - m) (by omega) (by omega)]
        simp only [Option.bind_some, ByteArray.size_append, z1]
        rw [if_pos (by omega), if_pos (by omega)]
        simp only [ba_assoc]
  · rw [if_pos rfl, if_pos rfl, if_pos rfl]
    refine ⟨?_, ?_⟩
    · rw [l1Num_is n (by omega) (by omega)]; simp only [Option.bind_some]; rw [if_pos (by omega)]
    · rw [itoa_is n (by omega) (by omega)]; simp only [Option.bind_some]; rw [if_pos (by omega)]
def byTxt (r c : Int) (a b : Bool) (row col : Int) : ByteArray := ((⟨#[82]⟩ : ByteArray) ++ pB r row a) ++ ((⟨#[67]⟩ : ByteArray) ++ pB c col b)
theorem place_nums {r c : Int} (h : goodRefB r c = true) : 1 ≤ r ∧ r ≤ 1000 ∧ 1 ≤ c ∧ c ≤ 200 := by unfold goodRefB at h; exact of_decide_eq_true h
theorem byTxt_le (r c : Int) (a b : Bool) (row col : Int) (h : goodRefB r c = true) (h' : goodRefB row col = true) : (byTxt r c a b row col).size ≤ 40 := by
  have b1 := place_nums h
  have b2 := place_nums h'
  have x := pB_le r row a (by omega) (by omega) (by omega) (by omega)
  have y := pB_le c col b (by omega) (by omega) (by omega) (by omega)
  have z1 : (⟨#[82]⟩ : ByteArray).size = 1 := rfl
  have z2 : (⟨#[67]⟩ : ByteArray).size = 1 := rfl
  unfold byTxt
  simp only [ByteArray.size_append, z1, z2]; omega
theorem specPlace_is (r c : Int) : spec_l3Place.f r c = some (goodRefB r c) := by
  unfold spec_l3Place.f; simp only [specGoodRef_is, Option.bind_some]
theorem implPlace_is (r c : Int) : impl_place_good.f r c = some (goodRefB r c) := by
  unfold impl_place_good.f goodRefB
  by_cases h1 : 1 ≤ r <;> by_cases h2 : r ≤ 1000 <;> by_cases h3 : 1 ≤ c <;> by_cases h4 : c ≤ 200 <;> simp [h1, h2, h3, h4]
theorem refTextBy_is (k : Nat) (r c : Int) (a b : Bool) (row col : Int) (h : goodRefB r c = true) (h' : goodRefB row col = true) :
    spec_RefTextBy.f (k + 1) r c a b row col = some (byTxt r c a b row col) ∧ impl_RefTextBy.f (k + 1) r c a b row col = some (byTxt r c a b row col) := by
  have b1 := place_nums h
  have b2 := place_nums h'
  have hl := byTxt_le r c a b row col h h'
  unfold byTxt at hl
  rw [ByteArray.size_append] at hl
  obtain ⟨hx1, hx2⟩ := by_is (⟨#[82]⟩ : ByteArray) (by decide) r row a (by omega) (by omega) (by omega) (by omega)
  obtain ⟨hy1, hy2⟩ := by_is (⟨#[67]⟩ : ByteArray) (by decide) c col b (by omega) (by omega) (by omega) (by omega)
  unfold spec_RefTextBy.f impl_RefTextBy.f
  rw [specGoodRef_is, implGoodRef_is, specPlace_is, implPlace_is]
  simp only [Option.bind_some]
  rw [h, h']
  refine ⟨?_, ?_⟩
  · simp only [if_true, Bool.not_true, spec_RefTextBy.j0, Bool.false_eq_true, if_false, hx1, hy1, Option.bind_some]; rw [if_pos (by omega)]; rfl
  · simp only [if_true, Bool.not_true, impl_RefTextBy.j0, Bool.false_eq_true, if_false, hx2, hy2, Option.bind_some]; rw [if_pos (by omega)]; rfl
/-! in lists -/
def isD (x : Int) : Bool := decide (48 ≤ x ∧ x ≤ 57)
theorem l1Digit_is (x : Int) : spec_l1Digit.f x = some (isD x) := by
  unfold spec_l1Digit.f isD
  by_cases h1 : 48 ≤ x <;> by_cases h2 : x ≤ 57 <;> simp [h1, h2]
def pL (n m : Int) (fix : Bool) : List Int := if fix = true then txtL n else if n = m then [] else 91 :: (txtL (n - m) ++ [93])
theorem bytes_pB (n m : Int) (fix : Bool) : bytesOf (pB n m fix) = pL n m fix := by
  unfold pB pL
  split
  · rfl
  · split
    · rfl
    · rw [bytes_app, bytes_app]; rfl
theorem bytes_byTxt (r c : Int) (a b : Bool) (row col : Int) : bytesOf (byTxt r c a b row col) = 82 :: (pL r row a ++ 67 :: pL c col b) := by
  unfold byTxt
  rw [bytes_app, bytes_app, bytes_app, bytes_pB, bytes_pB]; simp [bytesOf]
theorem txtL_neg (d : Int) (h : d < 0) : txtL d = 45 :: txtL (-d) := by
  unfold txtL; rw [txt_neg d h, bytes_app]; rfl
theorem txtL_D (d : Int) (h : 0 ≤ d) : ∀ x ∈ txtL d, isD x = true := by
  obtain ⟨u, rfl⟩ : ∃ u : Nat, d = u := ⟨d.toNat, by omega⟩
  exact fun x hx => decide_eq_true (txtL_digit u x hx)
theorem txtL_ne (d : Int) (h : 0 ≤ d) : txtL d ≠ [] := by
  obtain ⟨u, rfl⟩ : ∃ u : Nat, d = u := ⟨d.toNat, by omega⟩
  rw [txtL_nat]
  intro e
  have e2 := congrArg List.length e
  rw [List.length_map, Lib.decDigits_length] at e2
  have := Lib.nDigits_pos u
  simp at e2; omega
theorem drop_cons {s : ByteArray} {i : Nat} {x : Int} {R : List Int} (h : (bytesOf s).drop i = x :: R) : i < s.size ∧ bt s (i : Int) = x ∧ (bytesOf s).drop (i + 1) = R := by
  have hl : i < (bytesOf s).length := by
    rcases Nat.lt_or_ge i (bytesOf s).length with h' | h'
    · exact h'
    · rw [List.drop_eq_nil_of_le h'] at h; cases h
  rw [List.drop_eq_getElem_cons hl, at_bt s i hl] at h
  injection h with h1 h2
  rw [bytesOf_length] at hl
  exact ⟨hl, h1, h2⟩
theorem drop_nil {s : ByteArray} {i : Nat} (h : (bytesOf s).drop i = []) : s.size ≤ i := by
  rw [List.drop_eq_nil_iff, bytesOf_length] at h; exact h
theorem ext_list (s : ByteArray) (i j : Nat) : bytesOf (s.extract i j) = ((bytesOf s).drop i).take (j - i) := bytes_ext s i j
def sqV (s : ByteArray) (from_ sg v : Int) (Q : List Int) (j : Nat) : Int × Bool × Int := if Q.head? = some 93 ∧ 0 ≤ v then (wrap64 (from_ + wrap64 (sg * v)), false, ((j + 1 : Nat) : Int)) else (0, false, (s.size : Int))
theorem dlen {s : ByteArray} {i : Nat} {D Q : List Int} (h : (bytesOf s).drop i = D ++ Q) (hi : i ≤ s.size) : i + D.length + Q.length = s.size := by
  have := congrArg List.length h
  rw [List.length_drop, List.length_append, bytesOf_length] at this; omega
theorem split_run (R : List Int) : ∃ D Q : List Int, R = D ++ Q ∧ (∀ x ∈ D, isD x = true) ∧ (∀ x, Q.head? = some x → isD x = false) := by
  refine ⟨R.takeWhile isD, R.dropWhile isD, (List.takeWhile_append_dropWhile).symm, ?_, ?_⟩
  · intro x hx
    exact List.all_eq_true.1 (List.all_takeWhile) x hx
  · intro x hx
    have := List.head?_dropWhile_not isD R
    rw [hx] at this
    exact this
def badR : Int × Int × Bool × Bool × Bool := (0, 0, false, false, false)
def okR (s : ByteArray) (row col : Int) (o : Int × Int × Bool × Bool × Bool) : Prop := o = badR ∨ ∃ r c a b, goodRefB r c = true ∧ byTxt r c a b row col = s ∧ o = (r, c, a, b, true)
theorem byTxt_eq (t s : ByteArray) : (t.toList = s.toList) ↔ t = s := by
  rw [toList_iff]; exact ⟨bytesOf_inj, fun h => by rw [h]⟩
theorem spec_tail (k : Nat) (s : ByteArray) (row col : Int) (hp : goodRefB row col = true) (r c : Int) (a b : Bool) :
    ∃ o, ((spec_GoodRef.f r c a b).bind fun t220 => if t220 = true then (spec_RefTextBy.f (k + 1) r c a b row col).bind fun t221 => if t221.toList = s.toList then some (r, c, a, b, true) else some (0, 0, false, false, false) else some (0, 0, false, false, false)) = some o ∧ okR s row col o ∧ (goodRefB r c = true → byTxt r c a b row col = s → o = (r, c, a, b, true)) := by
  rw [specGoodRef_is]
  simp only [Option.bind_some]
  by_cases g : goodRefB r c = true
  · rw [if_pos g, (refTextBy_is k r c a b row col g hp).1]
    simp only [Option.bind_some, byTxt_eq]
    by_cases e : byTxt r c a b row col = s
    · rw [if_pos e]; exact ⟨_, rfl, .inr ⟨r, c, a, b, g, e, rfl⟩, fun _ _ => rfl⟩
    · rw [if_neg e]; exact ⟨_, rfl, .inl rfl, fun _ h => absurd h e⟩
  · rw [if_neg g]; exact ⟨_, rfl, .inl rfl, fun h => absurd h g⟩
theorem bt0 (s : ByteArray) (x : Int) (R : List Int) (h : bytesOf s = x :: R) : 0 < s.size ∧ bt s 0 = x ∧ (bytesOf s).drop 1 = R := by
  have := drop_cons (s := s) (i := 0) (x := x) (R := R) (by simpa using h)
  exact this
theorem hp_one (s : ByteArray) (c : UInt8) : strings_HasPrefix.f s (⟨#[c]⟩ : ByteArray) = some (decide ((bytesOf s).head? = some (c.toNat : Int))) := by
  unfold strings_HasPrefix.f Lib.hasPrefix bytesOf
  congr 1
  show List.isPrefixOf [c] s.data.toList = _
  cases s.data.toList with
  | nil => rfl
  | cons x l =>
    simp only [List.isPrefixOf, Bool.and_true, List.map_cons, List.head?_cons]
    by_cases h : c = x
    · subst h; simp
    · have h1 : (c == x) = false := by simpa using h
      have h2 : ¬ ((x.toNat : Int) = (c.toNat : Int)) := fun e => h (UInt8.toNat_inj.1 (by omega))
      rw [h1, decide_eq_false (by simpa using h2)]
theorem idx_map : ∀ (l : List UInt8) (c : UInt8) (P Q : List Int), l.map (fun b => (b.toNat : Int)) = P ++ (c.toNat : Int) :: Q → (c.toNat : Int) ∉ P → Lib.indexByte l c = (P.length : Int)
  | [], c, P, Q, h, _ => by cases P <;> cases h
  | b :: l, c, [], Q, h, _ => by
    simp at h
    have : b = c := UInt8.toNat_inj.1 (by omega)
    subst this
    simp [Lib.indexByte]
  | b :: l, c, p :: P, Q, h, hn => by
    simp only [List.map_cons, List.cons_append, List.cons.injEq] at h
    have ih := idx_map l c P Q h.2 (fun hm => hn (by simp [hm]))
    have hb : (b == c) = false := by
      simp only [beq_eq_false_iff_ne, ne_eq]
      intro e; subst e; exact hn (by simp [h.1])
    unfold Lib.indexByte
    rw [hb, ih]
    simp only [Bool.false_eq_true, if_false]
    rw [if_neg (by simp <;> omega)]; simp
theorem idx_cases (l : List UInt8) (c : UInt8) : Lib.indexByte l c < 0 ∨ ∃ o : Nat, Lib.indexByte l c = o ∧ o < l.length ∧ l[o]? = some c := by
  have h := Lib.indexByte_ge l c
  by_cases h0 : Lib.indexByte l c < 0
  · exact .inl h0
  · obtain ⟨o, ho⟩ : ∃ o : Nat, Lib.indexByte l c = o := ⟨(Lib.indexByte l c).toNat, by omega⟩
    have h2 := (Lib.indexByte_some ho).1
    refine .inr ⟨o, ho, ?_, h2⟩
    exact (List.getElem?_eq_some_iff.1 h2).1
theorem atoi_txt (n : Int) (h1 : -5000 ≤ n) (h2 : n ≤ 5000) (y : ByteArray) (hy : bytesOf y = txtL n) : strconv_Atoi.f y = some (n, none) := by
  have e : y = txt n := bytesOf_inj hy
  have hz := txt5 n h1 h2
  subst e
  unfold strconv_Atoi.f
  rw [if_pos (by omega)]
  unfold atoiV
  have hl : (txt n).data.toList = Lib.itoa n := by unfold txt; rfl
  rw [hl]
  have hz2 : (Lib.itoa n).length ≤ 5 := by
    have h3 : (txt n).size = (Lib.itoa n).length := by unfold txt; show (Lib.itoa n).toArray.size = _; simp
    omega
  rw [Lib.atoiAll_short _ (by omega)]
  have main : ∀ u : Nat, Lib.decNat (Lib.decDigits u) = some u := by
    intro u
    have hd := decFrom_dec u
    unfold Lib.decNat
    have hn : (Lib.decDigits u) ≠ [] := by
      intro h; have := Lib.decDigits_length u; rw [h] at this; have := Lib.nDigits_pos u; simp at *; omega
    cases h : Lib.decDigits u with
    | nil => exact absurd h hn
    | cons b r => rw [h] at hd; simp [hd]
  rcases Int.lt_or_le n 0 with h | h
  · have e1 : Lib.itoa n = 45 :: Lib.decDigits n.natAbs := by unfold Lib.itoa; rw [if_pos h]
    rw [e1]
    have e2 : Lib.atoi (45 :: Lib.decDigits n.natAbs) = some n := by
      have e3 : Lib.atoi (45 :: Lib.decDigits n.natAbs) = (Lib.decNat (Lib.decDigits n.natAbs)).map fun (m : Nat) => -(m : Int) := rfl
      rw [e3, main]
      simp; omega
    rw [e2]; rfl
  · obtain ⟨u, rfl⟩ : ∃ u : Nat, n = u := ⟨n.toNat, by omega⟩
    have e1 : Lib.itoa (u : Int) = Lib.decDigits u := by unfold Lib.itoa; rw [if_neg (by omega)]; simp
    rw [e1]
    have hm : ∀ b ∈ Lib.decDigits u, 48 ≤ b.toNat := by
      intro b hb
      rw [Lib.decDigits_eq] at hb
      obtain ⟨t, _, rfl⟩ := List.mem_map.1 hb
      simp only [Lib.dg, UInt8.toNat_ofNat']; omega
    have hn : (Lib.decDigits u) ≠ [] := by
      intro h; have := Lib.decDigits_length u; rw [h] at this; have := Lib.nDigits_pos u; simp at *; omega
    have hk := main u
    revert hk hm hn
    generalize Lib.decDigits u = l
    intro hm hn hk
    cases l with
    | nil => exact absurd rfl hn
    | cons b r =>
      have h48 := hm b (by simp)
      have n1 : (b == 45) = false := by
        simp; intro e; subst e; exact absurd h48 (by decide)
      have n2 : (b == 43) = false := by
        simp; intro e; subst e; exact absurd h48 (by decide)
      have e3 : Lib.atoi (b :: r) = if b == 45 then (Lib.decNat r).map (fun (m : Nat) => -(m : Int)) else if b == 43 then (Lib.decNat r).map (fun (m : Nat) => (m : Int)) else (Lib.decNat (b :: r)).map (fun (m : Nat) => (m : Int)) := rfl
      rw [n1, n2] at e3
      simp only [Bool.false_eq_true, if_false] at e3
      rw [e3, hk]; rfl
theorem digs_run (s : ByteArray) (hs : s.size ≤ 1048576) : ∀ (D Q : List Int) (k i : Nat), (∀ x ∈ D, isD x = true) → (∀ x, Q.head? = some x → isD x = false) → (bytesOf s).drop i = D ++ Q → i ≤ s.size →
    impl_digitsFrom.l0 (k + 1 + D.length) s (i : Int) = some ((i + D.length : Nat) : Int) := by
  intro D
  induction D with
  | nil =>
    intro Q k i _ hQ hd hi
    show impl_digitsFrom.l0 (k + 1) s _ = _
    simp only [impl_digitsFrom.l0, List.length_nil, Nat.add_zero]
    cases Q with
    | nil =>
      have := drop_nil (by simpa using hd)
      rw [if_neg (by omega)]
    | cons q Q =>
      obtain ⟨a1, a2, _⟩ := drop_cons (by simpa using hd)
      have := hQ q rfl
      unfold isD at this
      have := of_decide_eq_false this
      rw [if_pos (by omega), if_pos (by omega), a2]
      by_cases h : q ≥ 48
      · rw [if_pos h, if_neg (by omega)]
      · rw [if_neg h]
  | cons x D ih =>
    intro Q k i hD hQ hd hi
    obtain ⟨a1, a2, a3⟩ := drop_cons (by simpa using hd)
    have := ih Q k (i + 1) (fun y hy => hD y (by simp [hy])) hQ a3 (by omega)
    have hx := of_decide_eq_true (hD x (by simp))
    rw [show k + 1 + (x :: D).length = (k + 1 + D.length) + 1 from rfl]
    simp only [impl_digitsFrom.l0]
    rw [if_pos (by omega), if_pos (by omega), a2, if_pos (by omega), if_pos (by omega), wrap_id (by omega) (by omega), show (i : Int) + 1 = ((i + 1 : Nat) : Int) from by omega, this, List.length_cons, show i + 1 + D.length = i + (D.length + 1) from by omega]
theorem atoi_some (z : ByteArray) (h : z.size ≤ 1000) : ∃ v e, strconv_Atoi.f z = some (v, e) := by
  unfold strconv_Atoi.f
  rw [if_pos (by omega)]
  exact ⟨_, _, rfl⟩
theorem part_total (x : ByteArray) (hx : x.size ≤ 1000) (c : UInt8) (from_ : Int) (K : Nat) (hK : x.size + 20 ≤ K) :
    ∃ (n : Int) (fix : Bool) (rest : ByteArray) (ok : Bool), impl_readPartBy.f K x (⟨#[c]⟩ : ByteArray) from_ = some (n, fix, rest, ok) ∧ rest.size ≤ x.size := by
  have z0 : (⟨#[]⟩ : ByteArray).size = 0 := rfl
  unfold impl_readPartBy.f
  rw [hp_one]
  simp only [Option.bind_some]
  by_cases h : (bytesOf x).head? = some (c.toNat : Int)
  · rw [if_pos (decide_eq_true h)]
    have h1 : 1 ≤ x.size := by
      rw [← bytesOf_length x]
      cases hb : bytesOf x with
      | nil => rw [hb] at h; cases h
      | cons => simp
    rw [if_pos (by omega)]
    obtain ⟨y, hy⟩ : ∃ y, y = x.extract 1 x.size := ⟨_, rfl⟩
    rw [← hy]
    have hys : y.size = x.size - 1 := by rw [hy, ByteArray.size_extract]; omega
    rw [hp_one]
    simp only [Option.bind_some]
    by_cases h91 : (bytesOf y).head? = some (((91 : UInt8).toNat : Nat) : Int)
    · rw [if_pos (decide_eq_true h91)]
      unfold strings_IndexByte.f
      simp only [Option.bind_some]
      rw [show (93 : Int).toNat.toUInt8 = 93 from rfl]
      rcases idx_cases y.data.toList 93 with hn | ⟨o, ho, hol, hoc⟩
      · rw [if_pos hn]; exact ⟨_, _, _, _, rfl, by omega⟩
      · rw [ho, if_neg (by omega)]
        have hol' : o < y.size := by
          have e := bytesOf_length y
          unfold bytesOf at e
          rw [List.length_map] at e; omega
        have ho1 : 1 ≤ o := by
          rcases Nat.eq_zero_or_pos o with e | e
          · exfalso
            subst e
            unfold bytesOf at h91
            cases hd : y.data.toList with
            | nil => rw [hd] at hol; simp at hol
            | cons q l =>
              rw [hd] at hoc h91
              simp at hoc h91
              subst hoc
              exact absurd h91 (by decide)
          · exact e
        rw [if_pos (by omega), if_pos (by omega), Int.toNat_natCast]
        obtain ⟨v, e, hv⟩ := atoi_some (y.extract 1 o) (by rw [ByteArray.size_extract]; omega)
        rw [hv]
        simp only [Option.bind_some]
        by_cases c1 : e.isNone = true
        · rw [if_pos c1]
          by_cases c2 : v < -2000
          · rw [if_pos c2]; exact ⟨_, _, _, _, rfl, by omega⟩
          · rw [if_neg c2]
            by_cases c3 : v > 2000
            · rw [if_pos c3]; exact ⟨_, _, _, _, rfl, by omega⟩
            · rw [if_neg c3, wrap_id (x := (o : Int) + 1) (by omega) (by omega), if_pos (by omega), if_pos (by omega)]
              exact ⟨_, _, _, _, rfl, by rw [ByteArray.size_extract]; omega⟩
        · rw [if_neg c1]; exact ⟨_, _, _, _, rfl, by omega⟩
    · rw [if_neg (by simpa using h91)]
      obtain ⟨D, Q, hDQ, hD, hQ⟩ := split_run (bytesOf y)
      have hl : D.length + Q.length = y.size := by rw [← bytesOf_length y, hDQ, List.length_append]
      have hr := digs_run y (by omega) D Q (K - 1 - D.length) 0 hD hQ (by simpa using hDQ) (by omega)
      rw [show K - 1 - D.length + 1 + D.length = K from by omega, Nat.zero_add] at hr
      unfold impl_digitsFrom.f
      rw [show ((0 : Nat) : Int) = 0 from rfl] at hr
      rw [hr]
      simp only [Option.bind_some]
      by_cases c1 : ((D.length : Nat) : Int) = 0
      · rw [if_pos c1]; exact ⟨_, _, _, _, rfl, by omega⟩
      · rw [if_neg c1, if_pos (by omega), if_pos (by omega), Int.toNat_natCast]
        obtain ⟨v, e, hv⟩ := atoi_some (y.extract 0 D.length) (by rw [ByteArray.size_extract]; omega)
        rw [hv]
        simp only [Option.bind_some]
        by_cases c2 : e.isNone = true
        · rw [if_pos c2]; exact ⟨_, _, _, _, rfl, by rw [ByteArray.size_extract]; omega⟩
        · rw [if_neg c2]; exact ⟨_, _, _, _, rfl, by omega⟩
  · rw [if_neg (by simpa using h)]; exact ⟨_, _, _, _, rfl, by omega⟩
theorem part_is (x : ByteArray) (hx : x.size ≤ 1000) (c : UInt8) (n from_ : Int) (fix : Bool) (Q : List Int) (hQ : Q = [] ∨ ∃ Q', Q = 67 :: Q') (hn1 : 1 ≤ n) (hn2 : n ≤ 1000) (hf1 : 1 ≤ from_) (hf2 : from_ ≤ 1000) (hb : bytesOf x = (c.toNat : Int) :: (pL n from_ fix ++ Q)) (K : Nat) (hK : x.size + 20 ≤ K) :
    ∃ rest, impl_readPartBy.f K x (⟨#[c]⟩ : ByteArray) from_ = some (n, fix, rest, true) ∧ bytesOf rest = Q := by
  have hq1 : ∀ x, Q.head? = some x → isD x = false := by
    intro x hx
    rcases hQ with rfl | ⟨Q', rfl⟩
    · cases hx
    · simp at hx; subst hx; rfl
  have hq2 : Q.head? ≠ some 91 := by
    rcases hQ with rfl | ⟨Q', rfl⟩ <;> simp
  have hxl := bytesOf_length x
  unfold impl_readPartBy.f
  rw [hp_one]
  simp only [Option.bind_some]
  rw [if_pos (decide_eq_true (by rw [hb]; rfl))]
  have h1 : 1 ≤ x.size := by rw [← hxl, hb]; simp
  rw [if_pos (by omega)]
  obtain ⟨y, hy⟩ : ∃ y, y = x.extract 1 x.size := ⟨_, rfl⟩
  rw [← hy]
  have hys : y.size = x.size - 1 := by rw [hy, ByteArray.size_extract]; omega
  have hyb : bytesOf y = pL n from_ fix ++ Q := by
    rw [hy, ext_list, hb]
    simp only [List.drop_succ_cons, List.drop_zero]
    refine List.take_of_length_le ?_
    rw [hb] at hxl; simp at hxl ⊢; omega
  have hyl := bytesOf_length y
  rw [hp_one]
  simp only [Option.bind_some]
  cases fix
  · by_cases he : n = from_
    · have e : pL n from_ false = [] := by unfold pL; rw [if_neg (by decide), if_pos he]
      rw [e, List.nil_append] at hyb
      rw [if_neg (by rw [hyb]; simpa using hq2)]
      have hr := digs_run y (by omega) [] Q (K - 1) 0 (by simp) hq1 (by simpa using hyb) (by omega)
      rw [show K - 1 + 1 + ([] : List Int).length = K from by simp; omega] at hr
      unfold impl_digitsFrom.f
      rw [show ((0 : Nat) : Int) = 0 from rfl] at hr
      rw [hr]
      simp only [Option.bind_some, List.length_nil]
      rw [if_pos (show ((0 + 0 : Nat) : Int) = 0 from rfl), he]
      exact ⟨y, rfl, hyb⟩
    · have e : pL n from_ false = 91 :: (txtL (n - from_) ++ [93]) := by unfold pL; rw [if_neg (by decide), if_neg he]
      rw [e] at hyb
      rw [if_pos (decide_eq_true (by rw [hyb]; rfl))]
      unfold strings_IndexByte.f
      simp only [Option.bind_some]
      rw [show (93 : Int).toNat.toUInt8 = 93 from rfl]
      have h93 : (93 : Int) ∉ 91 :: txtL (n - from_) := by
        intro hm
        rcases List.mem_cons.1 hm with h | h
        · cases h
        · rcases Int.lt_or_le (n - from_) 0 with hl | hl
          · rw [txtL_neg _ hl] at h
            rcases List.mem_cons.1 h with h | h
            · cases h
            · exact absurd (txtL_D _ (by omega) _ h) (by decide)
          · exact absurd (txtL_D _ hl _ h) (by decide)
      have hi := idx_map y.data.toList 93 (91 :: txtL (n - from_)) Q (by show bytesOf y = _; rw [hyb]; simp) h93
      obtain ⟨m, hm⟩ : ∃ m, m = (txtL (n - from_)).length := ⟨_, rfl⟩
      rw [List.length_cons, ← hm] at hi
      have hlen : y.size = m + 2 + Q.length := by rw [← hyl, hyb]; simp [hm]; omega
      rw [hi, if_neg (by omega), if_pos (by omega), if_pos (by omega), Int.toNat_natCast]
      have hz : bytesOf (y.extract 1 (m + 1)) = txtL (n - from_) := by
        rw [ext_list, hyb]
        simp only [List.cons_append, List.drop_succ_cons, List.drop_zero, List.append_assoc]
        rw [show m + 1 - 1 = (txtL (n - from_)).length from by omega, List.take_left]
      rw [atoi_txt (n - from_) (by omega) (by omega) _ hz]
      simp only [Option.bind_some, Option.isNone_none, if_true]
      rw [if_neg (by omega), if_neg (by omega), wrap_id (x := ((m + 1 : Nat) : Int) + 1) (by omega) (by omega), if_pos (by omega), if_pos (by omega), wrap_id (x := from_ + (n - from_)) (by omega) (by omega)]
      refine ⟨y.extract (((m + 1 : Nat) : Int) + 1).toNat y.size, by rw [show from_ + (n - from_) = n from by omega], ?_⟩
      rw [ext_list, hyb, show (((m + 1 : Nat) : Int) + 1).toNat = (91 :: (txtL (n - from_) ++ [93])).length from by simp [← hm]; omega, List.drop_left]
      exact List.take_of_length_le (by simp [← hm]; omega)
  · have e : pL n from_ true = txtL n := by unfold pL; rw [if_pos rfl]
    rw [e] at hyb
    have hne := txtL_ne n (by omega)
    have hD := txtL_D n (by omega)
    have h91 : ¬ (bytesOf y).head? = some (((91 : UInt8).toNat : Nat) : Int) := by
      rw [hyb]
      cases hu : txtL n with
      | nil => exact absurd hu hne
      | cons q u =>
        have := of_decide_eq_true (hD q (by rw [hu]; simp))
        simp; omega
    rw [if_neg (by simpa using h91)]
    have hl : (txtL n).length + Q.length = y.size := by rw [← hyl, hyb, List.length_append]
    have hp : 0 < (txtL n).length := List.length_pos_iff.2 hne
    have hr := digs_run y (by omega) (txtL n) Q (K - 1 - (txtL n).length) 0 hD hq1 (by simpa using hyb) (by omega)
    rw [show K - 1 - (txtL n).length + 1 + (txtL n).length = K from by omega, Nat.zero_add] at hr
    unfold impl_digitsFrom.f
    rw [show ((0 : Nat) : Int) = 0 from rfl] at hr
    rw [hr]
    simp only [Option.bind_some]
    rw [if_neg (by omega), if_pos (by omega), if_pos (by omega), Int.toNat_natCast]
    have hz : bytesOf (y.extract 0 (txtL n).length) = txtL n := by
      rw [ext_list, hyb, List.drop_zero, Nat.sub_zero, List.take_left]
    rw [atoi_txt n (by omega) (by omega) _ hz]
    simp only [Option.bind_some, Option.isNone_none, if_true]
    refine ⟨_, rfl, ?_⟩
    rw [ext_list, hyb, List.drop_left]
    exact List.take_of_length_le (by omega)
theorem impl_tail (k : Nat) (s : ByteArray) (row col : Int) (hp : goodRefB row col = true) (r c : Int) (a b : Bool) :
    ∃ o, ((impl_GoodRef.f r c a b).bind fun t297 => if t297 = true then (impl_RefTextBy.f (k + 1) r c a b row col).bind fun t298 => if t298.toList = s.toList then some (r, c, a, b, true) else some (0, 0, false, false, false) else some (0, 0, false, false, false)) = some o ∧ okR s row col o ∧ (goodRefB r c = true → byTxt r c a b row col = s → o = (r, c, a, b, true)) := by
  rw [implGoodRef_is]
  simp only [Option.bind_some]
  by_cases g : goodRefB r c = true
  · rw [if_pos g, (refTextBy_is k r c a b row col g hp).2]
    simp only [Option.bind_some, byTxt_eq]
    by_cases e : byTxt r c a b row col = s
    · rw [if_pos e]; exact ⟨_, rfl, .inr ⟨r, c, a, b, g, e, rfl⟩, fun _ _ => rfl⟩
    · rw [if_neg e]; exact ⟨_, rfl, .inl rfl, fun _ h => absurd h e⟩
  · rw [if_neg g]; exact ⟨_, rfl, .inl rfl, fun h => absurd h g⟩
theorem implRead (s : ByteArray) (row col : Int) (hp : goodRefB row col = true) (K : Nat) (hK : s.size + 40 ≤ K) :
    ∃ o, impl_ReadRefBy.f K s row col = some o ∧ okR s row col o ∧ ∀ r c a b, goodRefB r c = true → byTxt r c a b row col = s → o = (r, c, a, b, true) := by
  have hpn := place_nums hp
  obtain ⟨k, rfl⟩ : ∃ k, K = k + 1 + 1 := ⟨K - 2, by omega⟩
  unfold impl_ReadRefBy.f
  by_cases h0 : s.size > 40
  · rw [if_pos (by omega)]
    simp only [impl_ReadRefBy.j0, if_true]
    exact ⟨_, rfl, .inl rfl, fun r c a b g e => absurd (byTxt_le r c a b row col g hp) (by rw [e]; omega)⟩
  · rw [if_neg (by omega), implPlace_is, hp]
    simp only [Option.bind_some, Bool.not_true, impl_ReadRefBy.j0, Bool.false_eq_true, if_false]
    obtain ⟨n, fx, rest, ok, h1, hr1⟩ := part_total s (by omega) 82 row (k + 1) (by omega)
    have h1' := h1
    rw [h1]
    simp only [Option.bind_some]
    have hL : ∀ r c a b, byTxt r c a b row col = s → bytesOf s = ((82 : UInt8).toNat : Int) :: (pL r row a ++ 67 :: pL c col b) := by
      intro r c a b e; rw [← e]; exact bytes_byTxt r c a b row col
    have hc1 : ∀ r c a b, goodRefB r c = true → byTxt r c a b row col = s → n = r ∧ fx = a ∧ ok = true ∧ bytesOf rest = 67 :: pL c col b := by
      intro r c a b g e
      have hb := place_nums g
      obtain ⟨rest', hx, hy⟩ := part_is s (by omega) 82 r row a (67 :: pL c col b) (.inr ⟨_, rfl⟩) hb.1 hb.2.1 hpn.1 hpn.2.1 (hL r c a b e) (k + 1) (by omega)
      rw [h1'] at hx
      have hx' := Option.some.inj hx
      injection hx' with e1 e2
      injection e2 with e2 e3
      injection e3 with e3 e4
      exact ⟨e1, e2, e4, by rw [e3]; exact hy⟩
    by_cases hok : ok = true
    · rw [if_pos hok]
      obtain ⟨n2, fx2, rest2, ok2, h2, hr2⟩ := part_total rest (by omega) 67 col (k + 1) (by omega)
      have h2' := h2
      rw [h2]
      simp only [Option.bind_some]
      have hc2 : ∀ r c a b, goodRefB r c = true → byTxt r c a b row col = s → n2 = c ∧ fx2 = b ∧ ok2 = true ∧ rest2.toList = ([] : List UInt8) := by
        intro r c a b g e
        have hb := place_nums g
        obtain ⟨rest', hx, hy⟩ := part_is rest (by omega) 67 c col b [] (.inl rfl) hb.2.2.1 (by omega) hpn.2.2.1 (by omega) (by rw [(hc1 r c a b g e).2.2.2]; simp) (k + 1) (by omega)
        rw [h2'] at hx
        have hx' := Option.some.inj hx
        injection hx' with e1 e2
        injection e2 with e2 e3
        injection e3 with e3 e4
        refine ⟨e1, e2, e4, ?_⟩
        rw [e3, ByteArray.toList_eq]
        unfold bytesOf at hy
        simpa using hy
      by_cases hok2 : ok2 = true
      · rw [if_pos hok2]
        by_cases hemp : rest2.toList = ([] : List UInt8)
        · rw [if_pos hemp]
          obtain ⟨o, ho, hk, hcm⟩ := impl_tail k s row col hp n n2 fx fx2
          refine ⟨o, ho, hk, fun r c a b g e => ?_⟩
          obtain ⟨e1, e2, _, _⟩ := hc1 r c a b g e
          obtain ⟨e3, e4, _, _⟩ := hc2 r c a b g e
          subst e1; subst e2; subst e3; subst e4
          exact hcm g e
        · rw [if_neg hemp]
          exact ⟨_, rfl, .inl rfl, fun r c a b g e => absurd (hc2 r c a b g e).2.2.2 hemp⟩
      · rw [if_neg hok2]
        exact ⟨_, rfl, .inl rfl, fun r c a b g e => absurd (hc2 r c a b g e).2.2.1 hok2⟩
    · rw [if_neg hok]
      exact ⟨_, rfl, .inl rfl, fun r c a b g e => absurd (hc1 r c a b g e).2.2.1 hok⟩
theorem bad_impl (s : ByteArray) (row col : Int) (hp : goodRefB row col = false) (k : Nat) : impl_ReadRefBy.f (k + 1) s row col = some badR := by
  have hbad : impl_ReadRefBy.j0 (k + 1) s row col true = some badR := by simp only [impl_ReadRefBy.j0, if_true]; rfl
  unfold impl_ReadRefBy.f
  by_cases h0 : s.size > 40
  · rw [if_pos (by omega), hbad]
  · rw [if_neg (by omega), implPlace_is, hp]
    simp only [Option.bind_some, Bool.not_false]
    exact hbad

/-! the cursor that draws: it always answers -/
def Bytes (l : List Int) : Prop := ∀ x ∈ l, 0 ≤ x ∧ x ≤ 255
theorem bytes_of {l : List Int} (h : ∀ x ∈ l, (Lit.int .u8 x).wf = true) : Bytes l := fun x hx => by
  have := h x hx
  simpa [Lit.wf, IntKind.min, IntKind.max, IntKind.signed, IntKind.bits] using this
theorem wf64_of {x : Int} (h1 : -9223372036854775808 ≤ x) (h2 : x ≤ 9223372036854775807) : (Lit.int .i64 x).wf = true := by
  simp [Lit.wf, IntKind.min, IntKind.max, IntKind.signed, IntKind.bits]
  exact ⟨h1, h2⟩
theorem wrap_rng (x : Int) : -9223372036854775808 ≤ wrap64 x ∧ wrap64 x ≤ 9223372036854775807 := by unfold wrap64; omega
theorem wf_wrap (x : Int) : (Lit.int .i64 (wrap64 x)).wf = true := wf64_of (wrap_rng x).1 (wrap_rng x).2
theorem wrapu_rng (x : Int) : 0 ≤ IntKind.u64.wrap x ∧ IntKind.u64.wrap x < 18446744073709551616 := by
  have e : IntKind.u64.wrap x = x % 18446744073709551616 := rfl
  rw [e]; omega
theorem wrapu_id {x : Int} (h1 : 0 ≤ x) (h2 : x < 18446744073709551616) : IntKind.u64.wrap x = x := by
  have e : IntKind.u64.wrap x = x % 18446744073709551616 := rfl
  rw [e]; omega
theorem byte_rd {l : List Int} (hb : Bytes l) {i : Int} (h0 : 0 ≤ i) (h1 : i < l.length) : 0 ≤ rd l i ∧ rd l i ≤ 255 := by
  have hlt : i.toNat < l.length := by omega
  have e : rd l i = l[i.toNat] := by unfold rd; rw [List.getD_eq_getElem?_getD, List.getElem?_eq_getElem hlt]; rfl
  rw [e]; exact hb _ (List.getElem_mem hlt)
theorem and255 (x : Int) : 0 ≤ Go.bits .and .u64 x 255 ∧ Go.bits .and .u64 x 255 ≤ 255 := by
  show 0 ≤ IntKind.u64.wrap (((BitVec.ofInt 64 x) &&& (BitVec.ofInt 64 255)).toNat : Int) ∧ IntKind.u64.wrap (((BitVec.ofInt 64 x) &&& (BitVec.ofInt 64 255)).toNat : Int) ≤ 255
  have e : (BitVec.ofInt 64 255).toNat = 255 := by decide
  have h : ((BitVec.ofInt 64 x) &&& (BitVec.ofInt 64 255)).toNat ≤ 255 := by
    rw [BitVec.toNat_and, e]; exact Nat.and_le_right
  generalize ((BitVec.ofInt 64 x) &&& (BitVec.ofInt 64 255)).toNat = n at h
  rw [wrapu_id (by omega) (by omega)]; omega
theorem or_rng (p q : Int) : 0 ≤ Go.bits .or .u64 p q ∧ Go.bits .or .u64 p q < 18446744073709551616 := by
  show 0 ≤ IntKind.u64.wrap (((BitVec.ofInt 64 p) ||| (BitVec.ofInt 64 q)).toNat : Int) ∧ IntKind.u64.wrap (((BitVec.ofInt 64 p) ||| (BitVec.ofInt 64 q)).toNat : Int) < 18446744073709551616
  exact wrapu_rng _
theorem next_ok (l : List Int) (hb : Bytes l) (a s : Int) (h0 : 0 ≤ a) (h1 : a ≤ 4611686018427387904) : ∃ b s', spec_l1Cur_next.f l a s = some (b, a + 1, s') ∧ 0 ≤ b ∧ b ≤ 255 := by
  unfold spec_l1Cur_next.f
  have hw : wrap64 (a + 1) = a + 1 := wrap_id (by omega) (by omega)
  by_cases h : a < (l.length : Int)
  · have hr := byte_rd hb h0 h
    rw [if_pos h, if_pos h0, hw, if_pos (by omega)]
    exact ⟨_, _, rfl, by rw [wrap_id (by omega) (by omega)]; exact hr.1, by rw [wrap_id (by omega) (by omega)]; exact hr.2⟩
  · rw [if_neg h, hw, if_neg (by omega)]
    have h2 := and255 (IntKind.u64.wrap (IntKind.u64.wrap (IntKind.u64.wrap (s * 6364136223846793005) + 0) + 1442695040888963407) / 1099511627776)
    exact ⟨_, _, rfl, by rw [wrap_id (by omega) (by omega)]; exact h2.1, by rw [wrap_id (by omega) (by omega)]; exact h2.2⟩
theorem pick_ok (l : List Int) (hb : Bytes l) (a s n : Int) (h0 : 0 ≤ a) (h1 : a ≤ 4611686018427387000) : ∃ x a' s', spec_l1Cur_pick.f l a s n = some (x, a', s') ∧ a ≤ a' ∧ a' ≤ a + 2 ∧ 0 ≤ x ∧ (1 ≤ n → x < n) := by
  unfold spec_l1Cur_pick.f
  by_cases hn : n ≤ 1
  · rw [if_pos hn]; exact ⟨0, a, s, rfl, by omega, by omega, by omega, fun _ => by omega⟩
  · rw [if_neg hn]
    obtain ⟨b, s1, e1, b0, b1⟩ := next_ok l hb a s h0 (by omega)
    rw [e1]; simp only [Option.bind_some]
    by_cases hg : n > 200
    · rw [if_pos hg]
      obtain ⟨c, s2, e2, c0, c1⟩ := next_ok l hb (a + 1) s1 (by omega) (by omega)
      rw [e2]; simp only [Option.bind_some]
      rw [if_neg (by omega), wrap_id (x := b * 256) (by omega) (by omega), wrap_id (by omega) (by omega), tm_pos (by omega)]
      exact ⟨_, _, _, rfl, by omega, by omega, Int.emod_nonneg _ (by omega), fun _ => Int.emod_lt_of_pos _ (by omega)⟩
    · rw [if_neg hg, if_neg (by omega), tm_pos b0]
      exact ⟨_, _, _, rfl, by omega, by omega, Int.emod_nonneg _ (by omega), fun _ => Int.emod_lt_of_pos _ (by omega)⟩

theorem one_ok (l : List Int) (hb : Bytes l) (a s n : Int) (h0 : 0 ≤ a) (h1 : a ≤ 4611686018427387000) : ∃ x a' s', spec_l1Cur_one.f l a s n = some (x, a', s') ∧ a ≤ a' ∧ a' ≤ a + 2 := by
  obtain ⟨x, a', s', e, h2, h3, _⟩ := pick_ok l hb a s n h0 h1
  unfold spec_l1Cur_one.f
  rw [e]; exact ⟨_, a', s', rfl, h2, h3⟩

/-! a reference's own text is read as it is -/
theorem evM {α : Type} {g : Nat → Option α} (hm : ∀ k, LeO (g k) (g (k + 1))) {K : Nat} {r : α} (h : g K = some r) : Ev g r :=
  ⟨K, fun k hk => by
    induction hk with
    | refl => exact h
    | step _ ih => exact hm _ _ ih⟩
theorem dolB_head (b : Bool) (L : List Int) (h : L.head? ≠ some 36) : dolB (dolL b ++ L) = b ∧ cutD (dolL b ++ L) = L := by
  cases b
  · cases L with
    | nil => exact ⟨rfl, rfl⟩
    | cons x L =>
      have hx : ¬ x = 36 := fun e => h (by rw [e]; rfl)
      have hd : dolB (x :: L) = false := decide_eq_false hx
      refine ⟨hd, ?_⟩
      show cutD (x :: L) = _
      unfold cutD; rw [hd]; rfl
  · exact ⟨rfl, rfl⟩
theorem txtL_head (r : Int) (h : 0 ≤ r) : (txtL r).head? ≠ some 36 := by
  obtain ⟨u, rfl⟩ : ∃ u : Nat, r = u := ⟨r.toNat, by omega⟩
  intro e
  have hm := List.mem_of_head? e
  have := txtL_digit u 36 hm
  omega
theorem cnL_head (c : Int) (h1 : 1 ≤ c) (h2 : c ≤ 200) (L : List Int) : (cnL c ++ L).head? ≠ some 36 := by
  unfold cnL
  rw [if_neg (by omega), if_neg (by omega)]
  split
  · simp; omega
  · simp; omega
theorem numL_cn (c : Int) (h1 : 1 ≤ c) (h2 : c ≤ 200) : numL (cnL c) = c := by
  unfold cnL
  rw [if_neg (by omega), if_neg (by omega)]
  split
  · unfold numL; simp only; rw [if_pos (by omega)]; omega
  · unfold numL; simp only; rw [if_pos (by omega), if_pos (by omega), if_neg (by omega)]; omega
theorem fin_own (r c : Int) (a b : Bool) (h : goodRefB r c = true) : finV (refTxt r a b (strOfNums (cnL c))) (l2L (rowL (bytesOf (refTxt r a b (strOfNums (cnL c)))))) = (r, c, a, b, true) := by
  have hb : 1 ≤ r ∧ r ≤ 1000 ∧ 1 ≤ c ∧ c ≤ 200 := by unfold goodRefB at h; exact of_decide_eq_true h
  obtain ⟨s, hs⟩ : ∃ s, refTxt r a b (strOfNums (cnL c)) = s := ⟨_, rfl⟩
  have hL : bytesOf s = dolL b ++ (cnL c ++ (dolL a ++ txtL r)) := by
    rw [← hs]
    unfold refTxt
    rw [bytes_app, bytes_app, bytes_app, bytes_dol, bytes_dol, bytesOf_strOfNums _ (cnL_ok c)]
    unfold txtL
    simp only [List.append_assoc]
  obtain ⟨u, hu⟩ : ∃ u : Nat, r = u := ⟨r.toNat, by omega⟩
  have hd1 := dolB_head b _ (cnL_head c hb.2.2.1 hb.2.2.2 (dolL a ++ txtL r))
  have hd2 := dolB_head a _ (txtL_head r (by omega))
  have hlet : lettersOf (bytesOf s) = cnL c := by
    unfold lettersOf
    rw [hL, hd1.2, List.takeWhile_append_of_pos (cn_letters c), tw_none _ _ (by rw [hu]; exact txtL_digit u), List.append_nil]
  have hbeh : behindL (bytesOf s) = dolL a ++ txtL r := by
    unfold behindL
    rw [hlet, hL, hd1.2, List.drop_left]
  have hrow : rowL (bytesOf s) = txtL r := by unfold rowL; rw [hbeh, hd2.2]
  rw [hs, hrow, l2_txt r hb.1 hb.2.1]
  unfold finV
  rw [hlet, hbeh, hd2.1, numL_cn c hb.2.2.1 hb.2.2.2, hL, hd1.1, if_pos ⟨h, hs⟩]
theorem txt_ne (x y : ByteArray) (c : UInt8) : ¬ ((⟨#[c]⟩ : ByteArray) ++ x ++ y).toList = ([] : List UInt8) := by
  rw [ByteArray.toList_eq, ByteArray.data_append, ByteArray.data_append]
  simp
theorem refTxt_ne (r : Int) (a b : Bool) (n : ByteArray) (h : 0 < (txt r).size) : ¬ (refTxt r a b n).toList = ([] : List UInt8) := by
  intro e
  have := congrArg List.length e
  rw [ByteArray.toList_eq, Array.length_toList] at this
  have h2 : (refTxt r a b n).size = 0 := this
  unfold refTxt at h2
  rw [ByteArray.size_append] at h2
  omega
theorem empty_toList : (⟨#[]⟩ : ByteArray).toList = ([] : List UInt8) := by rw [ByteArray.toList_eq]
/-! the draws -/
theorem cref_ok (l : List Int) (hb : Bytes l) (a s : Int) (h0 : 0 ≤ a) (h1 : a ≤ 4611686018427380000) : ∃ r c p q a' s', spec_l1Cur_ref.f l a s = some (r, c, p, q, a', s') ∧ a ≤ a' ∧ a' ≤ a + 20 ∧ goodRefB r c = true := by
  obtain ⟨x1, a1, s1, e1, g1, l1, p1, q1⟩ := pick_ok l hb a s 9 h0 (by omega)
  obtain ⟨x2, a2, s2, e2, g2, l2, p2, q2⟩ := pick_ok l hb a1 s1 9 (by omega) (by omega)
  obtain ⟨o3, a3, s3, e3, g3, l3⟩ := one_ok l hb a2 s2 3 (by omega) (by omega)
  obtain ⟨o4, a4, s4, e4, g4, l4⟩ := one_ok l hb a3 s3 3 (by omega) (by omega)
  obtain ⟨x5, a5, s5, e5, g5, l5, p5, q5⟩ := pick_ok l hb a4 s4 9 (by omega) (by omega)
  have q1 := q1 (by omega); have q2 := q2 (by omega)
  unfold spec_l1Cur_ref.f
  rw [e1]; simp only [Option.bind_some]; rw [e2]; simp only [Option.bind_some]; rw [e3]; simp only [Option.bind_some]; rw [e4]; simp only [Option.bind_some]; rw [e5]; simp only [Option.bind_some]
  by_cases c0 : x5 = 0
  · obtain ⟨x6, a6, s6, e6, g6, l6, p6, q6⟩ := pick_ok l hb a5 s5 1000 (by omega) (by omega)
    obtain ⟨x7, a7, s7, e7, g7, l7, p7, q7⟩ := pick_ok l hb a6 s6 200 (by omega) (by omega)
    have q6 := q6 (by omega); have q7 := q7 (by omega)
    rw [if_pos c0, e6]; simp only [Option.bind_some]; rw [e7]; simp only [Option.bind_some]
    rw [wrap_id (x := 1 + x6) (by omega) (by omega), wrap_id (x := 1 + x7) (by omega) (by omega)]
    exact ⟨_, _, _, _, a7, s7, rfl, by omega, by omega, decide_eq_true (by omega)⟩
  · by_cases c1 : x5 = 1
    · obtain ⟨x6, a6, s6, e6, g6, l6, p6, q6⟩ := pick_ok l hb a5 s5 2 (by omega) (by omega)
      obtain ⟨x7, a7, s7, e7, g7, l7, p7, q7⟩ := pick_ok l hb a6 s6 2 (by omega) (by omega)
      have q6 := q6 (by omega); have q7 := q7 (by omega)
      rw [if_neg c0, if_pos c1, e6]; simp only [Option.bind_some]; rw [e7]; simp only [Option.bind_some]
      rw [wrap_id (x := 1000 - x6) (by omega) (by omega), wrap_id (x := 200 - x7) (by omega) (by omega)]
      exact ⟨_, _, _, _, a7, s7, rfl, by omega, by omega, decide_eq_true (by omega)⟩
    · rw [if_neg c0, if_neg c1]
      rw [wrap_id (x := 1 + x1) (by omega) (by omega), wrap_id (x := 1 + x2) (by omega) (by omega)]
      exact ⟨_, _, _, _, a5, s5, rfl, by omega, by omega, decide_eq_true (by omega)⟩
theorem codd_ok (l : List Int) (hb : Bytes l) (a s : Int) (r c : Int) (p q : Bool) (h0 : 0 ≤ a) (h1 : a ≤ 4611686018427380000) : ∃ r' c' a' s', spec_l1Cur_oddRef.f l a s r c p q = some (r', c', p, q, a', s') ∧ a ≤ a' ∧ a' ≤ a + 20 := by
  obtain ⟨x1, a1, s1, e1, g1, l1, p1, q1⟩ := pick_ok l hb a s 30 h0 (by omega)
  obtain ⟨x2, a2, s2, e2, g2, l2, p2, q2⟩ := pick_ok l hb a1 s1 3 (by omega) (by omega)
  have q2 := q2 (by omega)
  unfold spec_l1Cur_oddRef.f
  rw [e1]; simp only [Option.bind_some]
  by_cases c0 : x1 = 0
  · rw [if_pos c0, e2]; simp only [Option.bind_some]; rw [if_pos p2, if_pos (by show x2 < 3; omega)]
    exact ⟨_, _, a2, s2, rfl, by omega, by omega⟩
  · by_cases c1 : x1 = 1
    · rw [if_neg c0, if_pos c1, e2]; simp only [Option.bind_some]; rw [if_pos p2, if_pos (by show x2 < 3; omega)]
      exact ⟨_, _, a2, s2, rfl, by omega, by omega⟩
    · rw [if_neg c0, if_neg c1]; exact ⟨_, _, a1, s1, rfl, by omega, by omega⟩
theorem drawBy_ok (l : List Int) (hb : Bytes l) : ∃ r c p q row col, spec_DrawRefTextBy.f l = some (r, c, p, q, row, col) := by
  obtain ⟨r1, c1, p1, q1, a1, s1, e1, g1, l1, _⟩ := cref_ok l hb 0 0 (by omega) (by omega)
  obtain ⟨r2, c2, a2, s2, e2, g2, l2⟩ := codd_ok l hb a1 s1 r1 c1 p1 q1 (by omega) (by omega)
  obtain ⟨r3, c3, p3, q3, a3, s3, e3, g3, l3, _⟩ := cref_ok l hb a2 s2 (by omega) (by omega)
  obtain ⟨r4, c4, a4, s4, e4, g4, l4⟩ := codd_ok l hb a3 s3 r3 c3 p3 q3 (by omega) (by omega)
  unfold spec_DrawRefTextBy.f
  rw [e1]; simp only [Option.bind_some]; rw [e2]; simp only [Option.bind_some]; rw [e3]; simp only [Option.bind_some]; rw [e4]; simp only [Option.bind_some]
  exact ⟨_, _, _, _, _, _, rfl⟩
theorem bent_ok (l : List Int) (hb : Bytes l) (a s : Int) (t : ByteArray) (by_ : List ByteArray) (h0 : 0 ≤ a) (h1 : a ≤ 4611686018427370000) (ht : t.size ≤ 1000) (hl : 1 ≤ by_.length) (hm : ∀ x ∈ by_, x.size ≤ 100) :
    ∃ t' a' s', spec_l1Cur_bent.f l a s t by_ = some (t', a', s') ∧ t'.size ≤ 3000 := by
  unfold spec_l1Cur_bent.f
  by_cases hz : t.size = 0
  · rw [if_pos hz]; exact ⟨_, _, _, rfl, by omega⟩
  · rw [if_neg hz, if_neg (by omega)]
    obtain ⟨o, a1, s1, e1, g1, l1⟩ := one_ok l hb a s 2 h0 (by omega)
    rw [e1]; simp only [Option.bind_some]
    cases o with
    | false => exact ⟨_, _, _, rfl, by omega⟩
    | true =>
      simp only [if_true]
      obtain ⟨i, a2, s2, e2, g2, l2, p2, q2⟩ := pick_ok l hb a1 s1 (t.size : Int) (by omega) (by omega)
      have q2 := q2 (by omega)
      rw [e2]; simp only [Option.bind_some]
      rw [if_pos ⟨p2, by omega⟩]
      obtain ⟨j, a3, s3, e3, g3, l3, p3, q3⟩ := pick_ok l hb a2 s2 (by_.length : Int) (by omega) (by omega)
      have q3 := q3 (by omega)
      rw [e3]; simp only [Option.bind_some]
      have hr : (rdOf ⟨#[]⟩ by_ j).size ≤ 100 := by
        unfold rdOf
        rw [List.getD_eq_getElem?_getD, List.getElem?_eq_getElem (by omega : j.toNat < by_.length)]
        exact hm _ (List.getElem_mem _)
      rw [if_pos ⟨p3, q3, by omega⟩]
      obtain ⟨u, a4, s4, e4, g4, l4, p4, q4⟩ := pick_ok l hb a3 s3 2 (by omega) (by omega)
      have q4 := q4 (by omega)
      rw [e4]; simp only [Option.bind_some]
      rw [if_pos ⟨p4, by omega⟩]
      refine ⟨_, _, _, rfl, ?_⟩
      rw [strOfNums_size]
      simp only [List.length_append, List.length_take, List.length_drop, bytesOf_length]
      omega
theorem drawRead_ok (l : List Int) (hb : Bytes l) : ∃ s, Ev (fun k => spec_DrawReadRef.f k l) s ∧ s.size ≤ 3000 := by
  obtain ⟨r, c, p, q, a1, s1, e1, g1, l1, hg⟩ := cref_ok l hb 0 0 (by omega) (by omega)
  obtain ⟨n, hn, hs⟩ := colName_sz c
  have ht : ∀ k, 300 ≤ k → spec_RefText.f k r c p q = some (refTxt r p q n) := fun k hk => specRefText_is k r c p q hg n (hn k hk) hs
  have hne : n = strOfNums (cnL c) := by have h1 := hn 304 (by omega); have h2 := colName_is 300 c; rw [h1] at h2; exact Option.some.inj h2
  have hsz := refTxt_le r c p q hg
  rw [← hne] at hsz
  obtain ⟨t', a', s', eb, hsz'⟩ := bent_ok l hb a1 s1 (refTxt r p q n) ([(⟨#[36]⟩ : ByteArray), (⟨#[]⟩ : ByteArray), (⟨#[48]⟩ : ByteArray), (⟨#[65]⟩ : ByteArray), (⟨#[49]⟩ : ByteArray), (⟨#[97]⟩ : ByteArray), (⟨#[45]⟩ : ByteArray)] : List ByteArray) (by omega) (by omega) (by omega) (by simp) (by
    intro x hx
    simp only [List.mem_cons, List.not_mem_nil, or_false] at hx
    rcases hx with rfl | rfl | rfl | rfl | rfl | rfl | rfl <;> decide)
  refine ⟨t', ⟨300, fun k hk => ?_⟩, hsz'⟩
  simp only
  unfold spec_DrawReadRef.f
  rw [e1]; simp only [Option.bind_some]
  rw [ht k hk]; simp only [Option.bind_some]
  rw [eb]; rfl
theorem ev_implReadRef (s : ByteArray) : Ev (fun k => impl_ReadRef.f k s) (finV s (l2L (rowL (bytesOf s)))) := evM (fun k => impl_ReadRef.mono s k) (implReadRef_all s)
theorem ev_specReadRef (s : ByteArray) (hs : s.size ≤ 1048576) : Ev (fun k => spec_ReadRef.f k s) (finV s (l2L (rowL (bytesOf s)))) := evM (fun k => spec_ReadRef.mono s k) (specReadRef_is s hs)
theorem ev_implText (r c : Int) (a b : Bool) (h : goodRefB r c = true) : Ev (fun k => impl_RefText.f k r c a b) (refTxt r a b (strOfNums (cnL c))) :=
  ⟨400, fun k hk => by
    obtain ⟨k, rfl⟩ : ∃ m, k = m + 1 := ⟨k - 1, by omega⟩
    exact implRefText_is k r c a b h _ (by rw [← colName_same]; obtain ⟨q, rfl⟩ : ∃ q, k = q + 4 := ⟨k - 4, by omega⟩; exact colName_is q c) (cn_le c)⟩
theorem ev_specText (r c : Int) (a b : Bool) (h : goodRefB r c = true) : Ev (fun k => spec_RefText.f k r c a b) (refTxt r a b (strOfNums (cnL c))) :=
  ⟨400, fun k hk => specRefText_is k r c a b h _ (by obtain ⟨q, rfl⟩ : ∃ q, k = q + 4 := ⟨k - 4, by omega⟩; exact colName_is q c) (cn_le c)⟩
theorem bad_text (r c : Int) (a b : Bool) (h : goodRefB r c = false) (k : Nat) : impl_RefText.f k r c a b = some (⟨#[]⟩ : ByteArray) ∧ spec_RefText.f k r c a b = some (⟨#[]⟩ : ByteArray) := by
  unfold spec_RefText.f impl_RefText.f
  rw [specGoodRef_is, implGoodRef_is, h]; simp
theorem bad_textBy (r c : Int) (a b : Bool) (row col : Int) (h : ¬ (goodRefB r c = true ∧ goodRefB row col = true)) (k : Nat) : impl_RefTextBy.f (k + 1) r c a b row col = some (⟨#[]⟩ : ByteArray) ∧ spec_RefTextBy.f (k + 1) r c a b row col = some (⟨#[]⟩ : ByteArray) := by
  unfold spec_RefTextBy.f impl_RefTextBy.f
  rw [specGoodRef_is, implGoodRef_is, specPlace_is, implPlace_is]
  simp only [Option.bind_some]
  by_cases h1 : goodRefB r c = true
  · have h2 : goodRefB row col = false := by simpa using fun h2 => h ⟨h1, h2⟩
    rw [h1, h2]; simp [impl_RefTextBy.j0, spec_RefTextBy.j0]
  · have h1 : goodRefB r c = false := by simpa using h1
    rw [h1]; simp [impl_RefTextBy.j0, spec_RefTextBy.j0]
theorem ev_j2 (l : List Int) (hb : Bytes l) : Ev (fun k => laws_FnAddresses.j2 k l) true := by
  obtain ⟨s, hs, hz⟩ := drawRead_ok l hb
  have h1 := ev_implReadRef s
  have h2 := ev_specReadRef s (by omega)
  have hv : (finV s (l2L (rowL (bytesOf s)))).2.2.2.2 = true → goodRefB (finV s (l2L (rowL (bytesOf s)))).1 (finV s (l2L (rowL (bytesOf s)))).2.1 = true ∧ refTxt (finV s (l2L (rowL (bytesOf s)))).1 (finV s (l2L (rowL (bytesOf s)))).2.2.1 (finV s (l2L (rowL (bytesOf s)))).2.2.2.1 (strOfNums (cnL (finV s (l2L (rowL (bytesOf s)))).2.1)) = s := by
    unfold finV
    split
    · rename_i h; intro _; exact h
    · intro h; cases h
  generalize finV s (l2L (rowL (bytesOf s))) = v at h1 h2 hv
  refine Ev.step (fun k => by rw [laws_FnAddresses.j2]) (Ev.bind hs (Ev.bind h1 (Ev.bind h2 ?_)))
  cases hok : v.2.2.2.2 with
  | false =>
    refine Ev.congr (f := fun _ => some true) (fun k => ?_) (Ev.now _)
    simp
  | true =>
    obtain ⟨hg, he⟩ := hv hok
    have h3 := ev_implText v.1 v.2.1 v.2.2.1 v.2.2.2.1 hg
    rw [he] at h3
    have hx : Ev (fun k => (impl_RefText.f k v.1 v.2.1 v.2.2.1 v.2.2.2.1).bind fun t456 => some (t456.toList == s.toList)) true := Ev.bind h3 (Ev.congr (f := fun _ => some true) (fun k => by simp) (Ev.now _))
    refine Ev.congr (fun k => ?_) hx
    simp only [beq_self_eq_true, Bool.and_self, if_true]
theorem FnAddresses : ∀ (l0 : (List Int)), QL (QI .u8) l0 → ∃ k, laws_FnAddresses.f k l0 = some true := by
  intro l hq
  have hb : Bytes l := bytes_of (fun x hx => hq.2 x hx)
  refine Ev.rounds ?_
  unfold laws_FnAddresses.f
  by_cases hn : (l.length : Int) > 1048576
  · exact Ev.congr (f := fun _ => some true) (fun k => by rw [if_pos hn]) (Ev.now _)
  · refine Ev.congr (fun k => by rw [if_neg hn]) ?_
    obtain ⟨r, c, p, q, row, col, e⟩ := drawBy_ok l hb
    have hj2 := ev_j2 l hb
    -- the text in the second notation
    have hby : ∃ u, Ev (fun k => impl_RefTextBy.f k r c p q row col) u ∧ Ev (fun k => spec_RefTextBy.f k r c p q row col) u ∧ Ev (fun k => laws_FnAddresses.j1 k l row col u r c p q) true := by
      by_cases h : goodRefB r c = true ∧ goodRefB row col = true
      · refine ⟨byTxt r c p q row col, ⟨1, fun k hk => ?_⟩, ⟨1, fun k hk => ?_⟩, ?_⟩
        · obtain ⟨k, rfl⟩ : ∃ m, k = m + 1 := ⟨k - 1, by omega⟩
          exact (refTextBy_is k r c p q row col h.1 h.2).2
        · obtain ⟨k, rfl⟩ : ∃ m, k = m + 1 := ⟨k - 1, by omega⟩
          exact (refTextBy_is k r c p q row col h.1 h.2).1
        · obtain ⟨o, ho, _, hr⟩ := implRead (byTxt r c p q row col) row col h.2 ((byTxt r c p q row col).size + 40) (Nat.le_refl _)
          have ho' := hr r c p q h.1 rfl
          subst ho'
          have hne : ¬ (byTxt r c p q row col).toList = ([] : List UInt8) := by
            intro e
            have h2 := congrArg List.length e
            rw [ByteArray.toList_eq, Array.length_toList] at h2
            have h3 : (byTxt r c p q row col).size = 0 := h2
            unfold byTxt at h3
            rw [ByteArray.size_append, ByteArray.size_append] at h3
            have : (⟨#[82]⟩ : ByteArray).size = 1 := rfl
            omega
          refine Ev.step (fun k => by rw [laws_FnAddresses.j1, if_neg hne]) (Ev.bind (evM (fun k => impl_ReadRefBy.mono _ row col k) ho) (Ev.congr (fun k => ?_) hj2))
          simp
      · refine ⟨⟨#[]⟩, ⟨1, fun k hk => ?_⟩, ⟨1, fun k hk => ?_⟩, ?_⟩
        · obtain ⟨k, rfl⟩ : ∃ m, k = m + 1 := ⟨k - 1, by omega⟩
          exact (bad_textBy r c p q row col h k).1
        · obtain ⟨k, rfl⟩ : ∃ m, k = m + 1 := ⟨k - 1, by omega⟩
          exact (bad_textBy r c p q row col h k).2
        · exact Ev.step (fun k => by rw [laws_FnAddresses.j1, if_pos empty_toList]) hj2
    obtain ⟨u, hu1, hu2, hj1⟩ := hby
    have htx : ∃ t, Ev (fun k => impl_RefText.f k r c p q) t ∧ Ev (fun k => spec_RefText.f k r c p q) t ∧ Ev (fun k => laws_FnAddresses.j0 k l row col t u false r c p q) true := by
      cases h : goodRefB r c with
      | true =>
        have hb2 : 1 ≤ r ∧ r ≤ 1000 ∧ 1 ≤ c ∧ c ≤ 200 := by unfold goodRefB at h; exact of_decide_eq_true h
        refine ⟨_, ev_implText r c p q h, ev_specText r c p q h, ?_⟩
        have hr := ev_implReadRef (refTxt r p q (strOfNums (cnL c)))
        rw [fin_own r c p q h] at hr
        refine Ev.step (fun k => by rw [laws_FnAddresses.j0, if_neg (by simp), if_neg (refTxt_ne r p q _ (txt_pos r (by omega) (by omega)))]) (Ev.bind hr ?_)
        have hcn : Ev (fun k => impl_ColName.f k c) (strOfNums (cnL c)) := ⟨4, fun k hk => by obtain ⟨q, rfl⟩ : ∃ q, k = q + 4 := ⟨k - 4, by omega⟩; show impl_ColName.f (q + 4) c = _; rw [← colName_same]; exact colName_is q c⟩
        have hnn : Ev (fun k => impl_ColNumber.f k (strOfNums (cnL c))) c := ⟨5, fun k hk => by
          obtain ⟨q, rfl⟩ : ∃ q, k = q + 5 := ⟨k - 5, by omega⟩
          show impl_ColNumber.f (q + 5) _ = _
          rw [implNumber_is, bytesOf_strOfNums _ (cnL_ok c), numL_cn c hb2.2.2.1 hb2.2.2.2]⟩
        have hx : Ev (fun k => (impl_ColName.f k c).bind fun t435 => ((impl_ColNumber.f k t435).bind fun t436 => (if t436 = c then (laws_FnAddresses.j1 k l row col u r c p q) else (some false)))) true := Ev.bind hcn (Ev.bind hnn (Ev.congr (fun k => by rw [if_pos rfl]) hj1))
        refine Ev.congr (fun k => ?_) hx
        simp
      | false =>
        refine ⟨⟨#[]⟩, ⟨0, fun k _ => (bad_text r c p q h k).1⟩, ⟨0, fun k _ => (bad_text r c p q h k).2⟩, ?_⟩
        exact Ev.step (fun k => by rw [laws_FnAddresses.j0, if_neg (by simp), if_pos empty_toList]) hj1
    obtain ⟨t, ht1, ht2, hj0⟩ := htx
    rw [e]; simp only [Option.bind_some]
    refine Ev.bind ht1 (Ev.bind hu1 (Ev.bind ht2 ?_))
    refine Ev.congr (fun k => by rw [if_pos rfl]) (Ev.bind hu2 ?_)
    refine Ev.congr (fun k => ?_) hj0
    simp

end Go.Proofs.YtffamggcjijobaaDoor.Pure
