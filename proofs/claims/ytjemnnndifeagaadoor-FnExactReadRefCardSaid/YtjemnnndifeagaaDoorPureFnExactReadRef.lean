/- The plain law of FnExactReadRef: what the program computes is what the reference computes, for every input (no further condition). -/
import Derived.Test.YtjemnnndifeagaaDoorMFnExactReadRefa8
namespace Go.Proofs.YtjemnnndifeagaaDoor.Pure
open Go.RowKit Go.Proofs.YtjemnnndifeagaaDoor.PFnExactReadRef Go.Proofs.YtjemnnndifeagaaDoorW.PrintWords Go.Proofs.YtjemnnndifeagaaDoorW.PrintLast

set_option linter.unusedVariables false
set_option linter.unusedSimpArgs false
/-! plain facts on whole numbers -/
theorem wrap_id {x : Int} (h1 : -9223372036854775808 ≤ x) (h2 : x ≤ 9223372036854775807) : wrap64 x = x := by
  unfold wrap64; omega
theorem td_pos {a b : Int} (h : 0 ≤ a) : a.tdiv b = a / b := Int.tdiv_eq_ediv_of_nonneg h
theorem td_neg {a b : Int} (h : a ≤ 0) : a.tdiv b = -((-a) / b) := by
  rw [← Int.tdiv_eq_ediv_of_nonneg (by omega : 0 ≤ -a), Int.neg_tdiv]; omega
theorem tm_pos {a b : Int} (h : 0 ≤ a) : a.tmod b = a % b := Int.tmod_eq_emod_of_nonneg h
theorem tm_neg {a b : Int} (h : a ≤ 0) : a.tmod b = -((-a) % b) := by
  rw [← Int.tmod_eq_emod_of_nonneg (by omega : 0 ≤ -a), Int.neg_tmod]; omega
theorem tm_zero (a b : Int) : a.tmod b = 0 ↔ a % b = 0 := by
  rw [← Int.dvd_iff_tmod_eq_zero, ← Int.dvd_iff_emod_eq_zero]
theorem ediv_is {a b q r : Int} (hb : 0 < b) (h : a = b * q + r) (h0 : 0 ≤ r) (h1 : r < b) : a / b = q := by
  rw [h, Int.add_comm, Int.add_mul_ediv_left _ _ (by omega), Int.ediv_eq_zero_of_lt h0 h1]; omega
theorem ediv_neg_of {a b : Int} (hb : 0 < b) (h : a.tmod b = 0) : a.tdiv b = a / b := by
  have e := Int.mul_tdiv_add_tmod a b
  rw [h] at e
  exact (ediv_is hb (q := a.tdiv b) (r := 0) (by omega) (by omega) hb).symm
theorem ediv_floor {a b : Int} (hb : 0 < b) (ha : a < 0) (h : a.tmod b ≠ 0) : a.tdiv b - 1 = a / b := by
  have e := Int.mul_tdiv_add_tmod a b
  have hm := tm_neg (a := a) (b := b) (by omega)
  have h0 := Int.emod_nonneg (-a) (by omega : b ≠ 0)
  have h1 := Int.emod_lt_of_pos (-a) hb
  refine (ediv_is hb (q := a.tdiv b - 1) (r := a.tmod b + b) ?_ (by omega) (by omega)).symm
  rw [Int.mul_sub]; omega
/-- The floor, as both programs reckon it. -/
theorem floor_is {a b : Int} (hb : 0 < b) (h1 : -4611686018427387904 ≤ a) (h2 : a ≤ 4611686018427387904) :
    (if b = 0 then (none) else (if (Int.tmod a b) = 0 then (some (wrap64 (Int.tdiv a b))) else (if ((decide (a < 0)) != (decide (b < 0))) = true then (some (wrap64 ((wrap64 (Int.tdiv a b)) - 1))) else (some (wrap64 (Int.tdiv a b)))))) = some (a / b) := by
  have hle : a / b ≤ 4611686018427387904 := by
    by_cases h : 0 ≤ a
    · exact Int.le_trans (Int.ediv_le_self b h) h2
    · have := Int.ediv_neg_of_neg_of_pos (by omega : a < 0) hb; omega
  have hge : -4611686018427387904 ≤ a / b := by
    by_cases h : 0 ≤ a
    · have := Int.ediv_nonneg h (by omega : 0 ≤ b); omega
    · exact Int.le_ediv_of_mul_le hb (by have : -4611686018427387904 * b ≤ -4611686018427387904 * 1 := by omega
                                         omega)
  rw [if_neg (by omega : ¬ b = 0)]
  by_cases hm : Int.tmod a b = 0
  · rw [if_pos hm, ediv_neg_of hb hm, wrap_id (by omega) (by omega)]
  · rw [if_neg hm]
    by_cases ha : a < 0
    · have e := ediv_floor hb ha hm
      rw [if_pos (by simp [ha]; omega), wrap_id (x := Int.tdiv a b) (by omega) (by omega), e, wrap_id (by omega) (by omega)]
    · rw [if_neg (by simp [ha]; omega), td_pos (by omega), wrap_id (by omega) (by omega)]

/-! plain facts on texts as lists of numbers -/
theorem u8_back (b : UInt8) : UInt8.ofNat ((b.toNat : Int)).toNat = b := by simp
theorem strOfNums_bytesOf (s : ByteArray) : strOfNums (bytesOf s) = s := by
  cases s with | mk d =>
  unfold strOfNums bytesOf
  congr 1
  rw [List.map_map]
  have : ((fun n : Int => UInt8.ofNat n.toNat) ∘ fun b : UInt8 => (b.toNat : Int)) = id := by funext b; exact u8_back b
  rw [this, List.map_id]
def okL (xs : List Int) : Prop := ∀ x ∈ xs, 0 ≤ x ∧ x < 256
theorem bytesOf_strOfNums (xs : List Int) (h : okL xs) : bytesOf (strOfNums xs) = xs := by
  unfold bytesOf
  rw [strOfNums_data, List.map_map]
  conv => rhs; rw [← List.map_id xs]
  refine List.map_congr_left fun x hx => ?_
  have := h x hx
  simp only [Function.comp, UInt8.toNat_ofNat', id]
  omega
theorem okL_bytesOf (s : ByteArray) : okL (bytesOf s) := by
  intro x hx
  obtain ⟨b, _, rfl⟩ := List.mem_map.1 hx
  have := b.toNat_lt
  omega
theorem strOfNums_app (xs ys : List Int) : strOfNums xs ++ strOfNums ys = strOfNums (xs ++ ys) := by
  apply ByteArray.ext
  rw [ByteArray.data_append]
  simp [strOfNums]
theorem bytesOf_inj {s t : ByteArray} (h : bytesOf s = bytesOf t) : s = t := by
  rw [← strOfNums_bytesOf s, ← strOfNums_bytesOf t, h]
theorem toList_iff (s t : ByteArray) : s.toList = t.toList ↔ bytesOf s = bytesOf t := by
  rw [ByteArray.toList_eq, ByteArray.toList_eq]
  constructor
  · intro h; unfold bytesOf; rw [h]
  · intro h; rw [bytesOf_inj h]
theorem bt_of (s : ByteArray) (L : List Int) (h : bytesOf s = L) (i : Int) : bt s i = rd L i := by
  rw [← h, rd_bytesOf]
theorem size_of' (s : ByteArray) (L : List Int) (h : bytesOf s = L) : s.size = L.length := by
  rw [← h, bytesOf_length]

def goodRefB (r c : Int) : Bool := decide (1 ≤ r ∧ r ≤ 1000 ∧ 1 ≤ c ∧ c ≤ 200)
theorem specGoodRef_is (r c : Int) (a b : Bool) : spec_GoodRef.f r c a b = some (goodRefB r c) := by
  unfold spec_GoodRef.f goodRefB
  by_cases h1 : 1 ≤ r <;> by_cases h2 : r ≤ 1000 <;> by_cases h3 : 1 ≤ c <;> by_cases h4 : c ≤ 200 <;> simp [h1, h2, h3, h4]
theorem implGoodRef_is (r c : Int) (a b : Bool) : impl_GoodRef.f r c a b = some (goodRefB r c) := by
  unfold impl_GoodRef.f impl_Ref_place.f impl_place_good.f goodRefB
  simp only [Option.bind_some]
  by_cases h1 : 1 ≤ r <;> by_cases h2 : r ≤ 1000 <;> by_cases h3 : 1 ≤ c <;> by_cases h4 : c ≤ 200 <;> simp [h1, h2, h3, h4]

theorem colName_l0_same : ∀ (k : Nat) (x : Int) (s : ByteArray), spec_ColName.l0 k x s = impl_ColName.l0 k x s
  | 0, _, _ => rfl
  | k + 1, x, s => by
    simp only [spec_ColName.l0, impl_ColName.l0]
    split
    · simp only [Option.bind_some]
      split
      · exact colName_l0_same k _ _
      · rfl
    · rfl
theorem colName_same (k : Nat) (n : Int) : spec_ColName.f k n = impl_ColName.f k n := by
  unfold spec_ColName.f impl_ColName.f
  have j : ∀ b, spec_ColName.j0 k n b = impl_ColName.j0 k n b := by
    intro b
    cases k with
    | zero => rfl
    | succ k => simp only [spec_ColName.j0, impl_ColName.j0, colName_l0_same]
  rw [j, j]
theorem colName_l0_ends : ∀ (d k : Nat) (x : Int) (s : ByteArray), x ≤ d → d < k → s.size + d ≤ 1000000 → ∃ r, spec_ColName.l0 k x s = some r := by
  intro d
  induction d with
  | zero =>
    intro k x s hx hk hs
    obtain ⟨k, rfl⟩ : ∃ m, k = m + 1 := ⟨k - 1, by omega⟩
    exact ⟨s, by simp only [spec_ColName.l0]; rw [if_neg (by omega)]⟩
  | succ d ih =>
    intro k x s hx hk hs
    obtain ⟨k, rfl⟩ : ∃ m, k = m + 1 := ⟨k - 1, by omega⟩
    by_cases h : x > 0
    · have hz : ∀ c : Int, (strOfNums [c]).size = 1 := fun c => rfl
      simp only [spec_ColName.l0]
      rw [if_pos h]
      simp only [Option.bind_some]
      rw [if_pos (by rw [hz]; omega)]
      refine ih k _ _ ?_ (by omega) ?_
      · have : Int.tdiv (wrap64 (x - 1)) 26 ≤ d := by
          have w : wrap64 (x - 1) = x - 1 := wrap_id (by omega) (by omega)
          rw [w, td_pos (by omega)]; omega
        have h0 : 0 ≤ Int.tdiv (wrap64 (x - 1)) 26 := by
          have w : wrap64 (x - 1) = x - 1 := wrap_id (by omega) (by omega)
          rw [w, td_pos (by omega)]; omega
        rw [wrap_id (by omega) (by omega)]; exact this
      · rw [ByteArray.size_append, hz]; omega
    · exact ⟨s, by simp only [spec_ColName.l0]; rw [if_neg h]⟩
theorem colName_ends (n : Int) : ∃ r, spec_ColName.f 300 n = some r := by
  unfold spec_ColName.f
  by_cases h : n < 1
  · rw [if_pos h]; exact ⟨_, rfl⟩
  · rw [if_neg h]
    by_cases h2 : n > 200
    · exact ⟨(⟨#[]⟩ : ByteArray), by simp [spec_ColName.j0, h2]⟩
    · obtain ⟨r, hr⟩ := colName_l0_ends 200 299 n (⟨#[]⟩ : ByteArray) (by omega) (by omega) (by show 0 + 200 ≤ 1000000; omega)
      exact ⟨r, by
        have : decide (n > 200) = false := decide_eq_false h2
        rw [this]; show spec_ColName.j0 (299 + 1) n false = some r
        simp only [spec_ColName.j0]; rw [if_neg (by decide)]; exact hr⟩

/-- The name of a column, as a list of bytes. -/
def cnL (n : Int) : List Int := if n < 1 then [] else if n > 200 then [] else if n ≤ 26 then [64 + n] else [64 + (n - 1) / 26, 65 + (n - 1) % 26]
theorem cnL_ok (n : Int) : okL (cnL n) := by
  intro x hx
  unfold cnL at hx
  split at hx
  · cases hx
  · split at hx
    · cases hx
    · split at hx
      · simp at hx; omega
      · simp at hx; omega
theorem colName_step (k : Nat) (x : Int) (L : List Int) (h0 : 0 < x) (h1 : x ≤ 200) (hL : L.length ≤ 100) :
    spec_ColName.l0 (k + 1) x (strOfNums L) = spec_ColName.l0 k ((x - 1) / 26) (strOfNums ((65 + (x - 1) % 26) :: L)) := by
  simp only [spec_ColName.l0]
  rw [if_pos h0]
  simp only [Option.bind_some]
  have w : wrap64 (x - 1) = x - 1 := wrap_id (by omega) (by omega)
  rw [w, td_pos (by omega), tm_pos (by omega), wrap_id (x := 65 + (x - 1) % 26) (by omega) (by omega), wrap_id (by omega) (by omega), strOfNums_app, strOfNums_size, strOfNums_size]
  rw [if_pos (by simp; omega), show (65 + (x - 1) % 26) % 256 = 65 + (x - 1) % 26 from by omega]
  rfl
theorem colName_zero (k : Nat) (s : ByteArray) : spec_ColName.l0 (k + 1) 0 s = some s := by
  simp only [spec_ColName.l0]; rw [if_neg (by omega)]
theorem colName_is (k : Nat) (n : Int) : spec_ColName.f (k + 4) n = some (strOfNums (cnL n)) := by
  unfold spec_ColName.f cnL
  by_cases h : n < 1
  · rw [if_pos h, if_pos h]; rfl
  · rw [if_neg h, if_neg h]
    by_cases h2 : n > 200
    · rw [if_pos h2]; simp only [spec_ColName.j0]; rw [if_pos (decide_eq_true h2)]; rfl
    · rw [if_neg h2]
      simp only [spec_ColName.j0]; rw [if_neg (by simp; omega)]
      have e0 : (⟨#[]⟩ : ByteArray) = strOfNums [] := rfl
      rw [e0, colName_step _ _ _ (by omega) (by omega) (by simp)]
      by_cases h3 : n ≤ 26
      · rw [if_pos h3, show (n - 1) / 26 = 0 from by omega, colName_zero, show (n - 1) % 26 = n - 1 from by omega, show 65 + (n - 1) = 64 + n from by omega]
      · rw [if_neg h3, colName_step _ _ _ (by omega) (by omega) (by simp), show ((n - 1) / 26 - 1) / 26 = 0 from by omega, colName_zero, show ((n - 1) / 26 - 1) % 26 = (n - 1) / 26 - 1 from by omega, show 65 + ((n - 1) / 26 - 1) = 64 + (n - 1) / 26 from by omega]

theorem num_step (k : Nat) (s : ByteArray) (n i : Int) (h0 : 0 ≤ i) (h : i < s.size) (h4 : i < 4) (l : 65 ≤ bt s i) (u : bt s i ≤ 90) (n0 : 0 ≤ n) (n1 : n ≤ 1000000) :
    spec_ColNumber.l0 (k + 2) s n i = spec_ColNumber.l0 k s (n * 26 + (bt s i - 64)) (i + 1) := by
  simp only [spec_ColNumber.l0, spec_ColNumber.j1]
  rw [if_pos h, if_pos (decide_eq_true h4), if_pos h0, if_pos h, if_neg (by omega), if_neg (by omega)]
  rw [wrap_id (x := n * 26) (by omega) (by omega), show ((bt s i) - 65) % 256 = bt s i - 65 from by omega, wrap_id (x := n * 26 + (bt s i - 65)) (by omega) (by omega), wrap_id (x := n * 26 + (bt s i - 65) + 1) (by omega) (by omega), wrap_id (x := i + 1) (by omega) (by omega)]
  rw [show n * 26 + (bt s i - 65) + 1 = n * 26 + (bt s i - 64) from by omega]
theorem num_bad (k : Nat) (s : ByteArray) (n i : Int) (h0 : 0 ≤ i) (h : i < s.size) (h4 : i < 4) (l : bt s i < 65 ∨ 90 < bt s i) :
    spec_ColNumber.l0 (k + 2) s n i = some 0 := by
  simp only [spec_ColNumber.l0, spec_ColNumber.j1]
  rw [if_pos h, if_pos (decide_eq_true h4), if_pos h0, if_pos h]
  by_cases l1 : bt s i < 65
  · rw [if_pos l1]
  · rw [if_neg l1, if_pos (by omega)]
theorem num_end (k : Nat) (s : ByteArray) (n i : Int) (h : (s.size : Int) ≤ i ∨ 4 ≤ i) :
    spec_ColNumber.l0 (k + 6) s n i = if cnL n = bytesOf s then some n else some 0 := by
  have e : spec_ColNumber.j1 (k + 5) s n i false = if cnL n = bytesOf s then some n else some 0 := by
    simp only [spec_ColNumber.j1]
    rw [if_neg (by decide), colName_is]
    simp only [Option.bind_some]
    by_cases c : cnL n = bytesOf s
    · rw [if_pos c, if_pos ((toList_iff _ _).2 (by rw [bytesOf_strOfNums _ (cnL_ok n), c]))]
    · rw [if_neg c, if_neg (fun q => c (by rw [← bytesOf_strOfNums _ (cnL_ok n)]; exact (toList_iff _ _).1 q))]
  simp only [spec_ColNumber.l0]
  by_cases c : i < (s.size : Int)
  · rw [if_pos c, decide_eq_false (by omega : ¬ i < 4)]; exact e
  · rw [if_neg c]; exact e
theorem imp_step (k : Nat) (s : ByteArray) (n i : Int) (h0 : 0 ≤ i) (h : i < s.size) (hz : s.size ≤ 3) (l : 65 ≤ bt s i) (u : bt s i ≤ 90) (n0 : 0 ≤ n) (n1 : n ≤ 1000000) :
    impl_ColNumber.l0 (k + 1) s n i = impl_ColNumber.l0 k s (n * 26 + (bt s i - 64)) (i + 1) := by
  simp only [impl_ColNumber.l0]
  rw [if_pos h, if_pos h0, if_neg (by omega), if_neg (by omega)]
  rw [wrap_id (x := n * 26) (by omega) (by omega), show ((bt s i) - 65) % 256 = bt s i - 65 from by omega, wrap_id (x := n * 26 + (bt s i - 65)) (by omega) (by omega), wrap_id (x := n * 26 + (bt s i - 65) + 1) (by omega) (by omega), wrap_id (x := i + 1) (by omega) (by omega)]
  rw [show n * 26 + (bt s i - 65) + 1 = n * 26 + (bt s i - 64) from by omega]
theorem imp_bad (k : Nat) (s : ByteArray) (n i : Int) (h0 : 0 ≤ i) (h : i < s.size) (l : bt s i < 65 ∨ 90 < bt s i) :
    impl_ColNumber.l0 (k + 1) s n i = some 0 := by
  simp only [impl_ColNumber.l0]
  rw [if_pos h, if_pos h0]
  by_cases l1 : bt s i < 65
  · rw [if_pos l1]
  · rw [if_neg l1, if_pos (by omega)]
theorem imp_end (k : Nat) (s : ByteArray) (n i : Int) (h : (s.size : Int) ≤ i) :
    impl_ColNumber.l0 (k + 1) s n i = if n > 200 then some 0 else some n := by
  simp only [impl_ColNumber.l0]
  rw [if_neg (by omega)]
/-- What both tell: the number of a column's name. -/
def numL : List Int → Int
  | [a] => if 65 ≤ a ∧ a ≤ 90 then a - 64 else 0
  | [a, b] => if 65 ≤ a ∧ a ≤ 90 then (if 65 ≤ b ∧ b ≤ 90 then (if 26 * (a - 64) + (b - 64) > 200 then 0 else 26 * (a - 64) + (b - 64)) else 0) else 0
  | _ => 0
theorem rd0 (a : Int) (l : List Int) : rd (a :: l) 0 = a := rfl
theorem rd1 (a b : Int) (l : List Int) : rd (a :: b :: l) 1 = b := rfl
theorem rd2 (a b c : Int) (l : List Int) : rd (a :: b :: c :: l) 2 = c := rfl
theorem rd3 (a b c d : Int) (l : List Int) : rd (a :: b :: c :: d :: l) 3 = d := rfl
theorem specNumber_is (k : Nat) (s : ByteArray) : spec_ColNumber.f (k + 14) s = some (numL (bytesOf s)) := by
  unfold spec_ColNumber.f
  generalize hL : bytesOf s = L
  have hz := size_of' s L hL
  have b0 := bt_of s L hL 0
  have b1 := bt_of s L hL 1
  have b2 := bt_of s L hL 2
  have b3 := bt_of s L hL 3
  match L, hL, hz, b0, b1, b2, b3 with
  | [], hL, hz, b0, b1, b2, b3 =>
    rw [num_end (k + 8) s 0 0 (.inl (by rw [hz]; simp)), hL]
    rfl
  | [a], hL, hz, b0, b1, b2, b3 =>
    rw [rd0] at b0
    by_cases la : 65 ≤ a ∧ a ≤ 90
    · rw [num_step (k + 12) s 0 0 (by omega) (by rw [hz]; simp) (by omega) (by omega) (by omega) (by omega) (by omega), num_end (k + 6) s _ _ (.inl (by rw [hz]; simp)), hL, b0]
      have e : cnL (0 * 26 + (a - 64)) = [a] := by
        unfold cnL; rw [if_neg (by omega), if_neg (by omega), if_pos (by omega)]; congr 1; omega
      rw [if_pos e]; show some _ = some (if 65 ≤ a ∧ a ≤ 90 then a - 64 else 0); rw [if_pos la]; congr 1; omega
    · rw [num_bad (k + 12) s 0 0 (by omega) (by rw [hz]; simp) (by omega) (by omega)]
      show some _ = some (if 65 ≤ a ∧ a ≤ 90 then a - 64 else 0); rw [if_neg la]
  | [a, b], hL, hz, b0, b1, b2, b3 =>
    rw [rd0] at b0; rw [rd1] at b1
    show _ = some (if 65 ≤ a ∧ a ≤ 90 then (if 65 ≤ b ∧ b ≤ 90 then (if 26 * (a - 64) + (b - 64) > 200 then 0 else 26 * (a - 64) + (b - 64)) else 0) else 0)
    by_cases la : 65 ≤ a ∧ a ≤ 90
    · rw [num_step (k + 12) s 0 0 (by omega) (by rw [hz]; simp) (by omega) (by omega) (by omega) (by omega) (by omega), if_pos la, b0]
      by_cases lb : 65 ≤ b ∧ b ≤ 90
      · rw [num_step (k + 10) s _ (0 + 1) (by omega) (by rw [hz]; simp) (by omega) (by rw [show (0 : Int) + 1 = 1 from rfl]; omega) (by rw [show (0 : Int) + 1 = 1 from rfl]; omega) (by omega) (by omega), num_end (k + 4) s _ _ (.inl (by rw [hz]; simp)), hL, if_pos lb, show (0 : Int) + 1 = 1 from rfl, b1]
        by_cases g : 26 * (a - 64) + (b - 64) > 200
        · rw [if_pos g, if_neg]
          unfold cnL; rw [if_neg (by omega), if_pos (by omega)]; simp
        · have e : cnL ((0 * 26 + (a - 64)) * 26 + (b - 64)) = [a, b] := by
            unfold cnL; rw [if_neg (by omega), if_neg (by omega), if_neg (by omega)]; congr 1
            · omega
            · congr 1; omega
          rw [if_neg g, if_pos e]; congr 1; omega
      · rw [num_bad (k + 10) s _ (0 + 1) (by omega) (by rw [hz]; simp) (by omega) (by rw [show (0 : Int) + 1 = 1 from rfl]; omega), if_neg lb]
    · rw [num_bad (k + 12) s 0 0 (by omega) (by rw [hz]; simp) (by omega) (by omega), if_neg la]
  | a :: b :: c :: l, hL, hz, b0, b1, b2, b3 =>
    rw [rd0] at b0; rw [rd1] at b1; rw [rd2] at b2
    show _ = some 0
    simp only [List.length_cons] at hz
    by_cases la : 65 ≤ a ∧ a ≤ 90
    · rw [num_step (k + 12) s 0 0 (by omega) (by omega) (by omega) (by omega) (by omega) (by omega) (by omega), b0]
      by_cases lb : 65 ≤ b ∧ b ≤ 90
      · rw [show (0 : Int) + 1 = 1 from rfl, num_step (k + 10) s _ 1 (by omega) (by omega) (by omega) (by omega) (by omega) (by omega) (by omega), b1]
        by_cases lc : 65 ≤ c ∧ c ≤ 90
        · rw [show (1 : Int) + 1 = 2 from rfl, num_step (k + 8) s _ 2 (by omega) (by omega) (by omega) (by omega) (by omega) (by omega) (by omega), b2]
          rw [show (2 : Int) + 1 = 3 from rfl]
          have far : ∀ m : Int, 703 ≤ m → cnL m ≠ bytesOf s := by
            intro m hm; rw [hL]; unfold cnL; rw [if_neg (by omega), if_pos (by omega)]; simp
          by_cases h4 : l.length = 0
          · rw [num_end (k + 2) s _ 3 (.inl (by omega)), if_neg (far _ (by omega))]
          · by_cases ld : 65 ≤ bt s 3 ∧ bt s 3 ≤ 90
            · rw [num_step (k + 6) s _ 3 (by omega) (by omega) (by omega) (by omega) (by omega) (by omega) (by omega), num_end k s _ (3 + 1) (.inr (by omega)), if_neg (far _ (by omega))]
            · rw [num_bad (k + 6) s _ 3 (by omega) (by omega) (by omega) (by omega)]
        · rw [show (1 : Int) + 1 = 2 from rfl, num_bad (k + 8) s _ 2 (by omega) (by omega) (by omega) (by omega)]
      · rw [show (0 : Int) + 1 = 1 from rfl, num_bad (k + 10) s _ 1 (by omega) (by omega) (by omega) (by omega)]
    · rw [num_bad (k + 12) s 0 0 (by omega) (by omega) (by omega) (by omega)]
theorem implNumber_is (k : Nat) (s : ByteArray) : impl_ColNumber.f (k + 5) s = some (numL (bytesOf s)) := by
  unfold impl_ColNumber.f
  generalize hL : bytesOf s = L
  have hz := size_of' s L hL
  have b0 := bt_of s L hL 0
  have b1 := bt_of s L hL 1
  have b2 := bt_of s L hL 2
  match L, hL, hz, b0, b1, b2 with
  | [], hL, hz, b0, b1, b2 =>
    rw [if_pos (by rw [hz]; simp)]; rfl
  | [a], hL, hz, b0, b1, b2 =>
    rw [rd0] at b0
    simp only [List.length_cons, List.length_nil] at hz
    rw [if_neg (by omega), decide_eq_false (by omega)]
    simp only [impl_ColNumber.j0]; rw [if_neg (by decide)]
    show _ = some (if 65 ≤ a ∧ a ≤ 90 then a - 64 else 0)
    by_cases la : 65 ≤ a ∧ a ≤ 90
    · rw [imp_step (k + 3) s 0 0 (by omega) (by omega) (by omega) (by omega) (by omega) (by omega) (by omega), imp_end _ _ _ _ (by omega), if_neg (by omega), if_pos la]; congr 1; omega
    · rw [imp_bad (k + 3) s 0 0 (by omega) (by omega) (by omega), if_neg la]
  | [a, b], hL, hz, b0, b1, b2 =>
    rw [rd0] at b0; rw [rd1] at b1
    simp only [List.length_cons, List.length_nil] at hz
    rw [if_neg (by omega), decide_eq_false (by omega)]
    simp only [impl_ColNumber.j0]; rw [if_neg (by decide)]
    show _ = some (if 65 ≤ a ∧ a ≤ 90 then (if 65 ≤ b ∧ b ≤ 90 then (if 26 * (a - 64) + (b - 64) > 200 then 0 else 26 * (a - 64) + (b - 64)) else 0) else 0)
    by_cases la : 65 ≤ a ∧ a ≤ 90
    · rw [imp_step (k + 3) s 0 0 (by omega) (by omega) (by omega) (by omega) (by omega) (by omega) (by omega), if_pos la, show (0 : Int) + 1 = 1 from rfl]
      by_cases lb : 65 ≤ b ∧ b ≤ 90
      · rw [imp_step (k + 2) s _ 1 (by omega) (by omega) (by omega) (by omega) (by omega) (by omega) (by omega), imp_end _ _ _ _ (by omega), if_pos lb, b0, b1]
        by_cases g : 26 * (a - 64) + (b - 64) > 200
        · rw [if_pos g, if_pos (by omega)]
        · rw [if_neg g, if_neg (by omega)]; congr 1; omega
      · rw [imp_bad (k + 2) s _ 1 (by omega) (by omega) (by omega), if_neg lb]
    · rw [imp_bad (k + 3) s 0 0 (by omega) (by omega) (by omega), if_neg la]
  | a :: b :: c :: l, hL, hz, b0, b1, b2 =>
    rw [rd0] at b0; rw [rd1] at b1; rw [rd2] at b2
    simp only [List.length_cons] at hz
    show _ = some 0
    rw [if_neg (by omega)]
    by_cases h4 : (s.size : Int) > 3
    · rw [decide_eq_true h4]; rfl
    rw [decide_eq_false h4]
    simp only [impl_ColNumber.j0]; rw [if_neg (by decide)]
    by_cases la : 65 ≤ a ∧ a ≤ 90
    · rw [imp_step (k + 3) s 0 0 (by omega) (by omega) (by omega) (by omega) (by omega) (by omega) (by omega), show (0 : Int) + 1 = 1 from rfl]
      by_cases lb : 65 ≤ b ∧ b ≤ 90
      · rw [imp_step (k + 2) s _ 1 (by omega) (by omega) (by omega) (by omega) (by omega) (by omega) (by omega), show (1 : Int) + 1 = 2 from rfl]
        by_cases lc : 65 ≤ c ∧ c ≤ 90
        · rw [imp_step (k + 1) s _ 2 (by omega) (by omega) (by omega) (by omega) (by omega) (by omega) (by omega), imp_end _ _ _ _ (by omega), if_pos (by omega)]
        · rw [imp_bad (k + 1) s _ 2 (by omega) (by omega) (by omega)]
      · rw [imp_bad (k + 2) s _ 1 (by omega) (by omega) (by omega)]
    · rw [imp_bad (k + 3) s 0 0 (by omega) (by omega) (by omega)]

theorem colName_l0_sz : ∀ (d : Nat) (x : Int) (s : ByteArray), x ≤ d → s.size + d ≤ 1000000 → ∃ r, (∀ k, d < k → spec_ColName.l0 k x s = some r) ∧ r.size ≤ s.size + d := by
  intro d
  induction d with
  | zero =>
    intro x s hx hs
    refine ⟨s, fun k hk => ?_, by omega⟩
    obtain ⟨k, rfl⟩ : ∃ m, k = m + 1 := ⟨k - 1, by omega⟩
    simp only [spec_ColName.l0]; rw [if_neg (by omega)]
  | succ d ih =>
    intro x s hx hs
    by_cases h : x > 0
    · have hz : ∀ c : Int, (strOfNums [c]).size = 1 := fun c => rfl
      obtain ⟨r, h1, h2⟩ := ih (wrap64 (Int.tdiv (wrap64 (x - 1)) 26)) (strOfNums [(wrap64 (65 + (Int.tmod (wrap64 (x - 1)) 26))) % 256] ++ s) (by
        have : Int.tdiv (wrap64 (x - 1)) 26 ≤ d := by
          have w : wrap64 (x - 1) = x - 1 := wrap_id (by omega) (by omega)
          rw [w, td_pos (by omega)]; omega
        have h0 : 0 ≤ Int.tdiv (wrap64 (x - 1)) 26 := by
          have w : wrap64 (x - 1) = x - 1 := wrap_id (by omega) (by omega)
          rw [w, td_pos (by omega)]; omega
        rw [wrap_id (by omega) (by omega)]; exact this) (by rw [ByteArray.size_append, hz]; omega)
      refine ⟨r, fun k hk => ?_, by rw [ByteArray.size_append, hz] at h2; omega⟩
      obtain ⟨k, rfl⟩ : ∃ m, k = m + 1 := ⟨k - 1, by omega⟩
      simp only [spec_ColName.l0]
      rw [if_pos h]
      simp only [Option.bind_some]
      rw [if_pos (by rw [hz]; omega)]
      exact h1 k (by omega)
    · refine ⟨s, fun k hk => ?_, by omega⟩
      obtain ⟨k, rfl⟩ : ∃ m, k = m + 1 := ⟨k - 1, by omega⟩
      simp only [spec_ColName.l0]; rw [if_neg h]
theorem colName_sz (n : Int) : ∃ r, (∀ k, 300 ≤ k → spec_ColName.f k n = some r) ∧ r.size ≤ 1000 := by
  by_cases h : n < 1
  · refine ⟨⟨#[]⟩, fun k hk => ?_, by show 0 ≤ 1000; omega⟩
    obtain ⟨k, rfl⟩ : ∃ m, k = m + 1 := ⟨k - 1, by omega⟩
    unfold spec_ColName.f; rw [if_pos h]; simp [spec_ColName.j0]
  · by_cases h2 : n > 200
    · refine ⟨⟨#[]⟩, fun k hk => ?_, by show 0 ≤ 1000; omega⟩
      obtain ⟨k, rfl⟩ : ∃ m, k = m + 1 := ⟨k - 1, by omega⟩
      unfold spec_ColName.f; rw [if_neg h]; simp [spec_ColName.j0, h2]
    · obtain ⟨r, hr, hs⟩ := colName_l0_sz 200 n (⟨#[]⟩ : ByteArray) (by omega) (by show 0 + 200 ≤ 1000000; omega)
      refine ⟨r, fun k hk => ?_, by have : (⟨#[]⟩ : ByteArray).size = 0 := rfl; omega⟩
      obtain ⟨k, rfl⟩ : ∃ m, k = m + 1 := ⟨k - 1, by omega⟩
      unfold spec_ColName.f; rw [if_neg h]
      have : decide (n > 200) = false := decide_eq_false h2
      rw [this]
      simp only [spec_ColName.j0]; rw [if_neg (by decide)]; exact hr k (by omega)

/-- A number's decimal text. -/
def txt (n : Int) : ByteArray := ⟨(Lib.itoa n).toArray⟩
theorem l1Num_is (n : Int) (h1 : -1000000000000000000 < n) (h2 : n < 1000000000000000000) : spec_l1Num.f n = some (txt n) := by unfold spec_l1Num.f; rw [if_pos ⟨h1, h2⟩]; rfl
theorem itoa_is (n : Int) (h1 : -1000000000000000000 < n) (h2 : n < 1000000000000000000) : strconv_Itoa.f n = some (txt n) := by unfold strconv_Itoa.f; rw [if_pos ⟨by omega, by omega⟩]; rfl
theorem txt_le (n : Int) (h1 : -1000000000000000000 < n) (h2 : n < 1000000000000000000) : (txt n).size ≤ 21 := by
  have := Lib.itoa_length_le n (by omega) (by omega)
  show (Lib.itoa n).toArray.size ≤ 21
  simpa using this

theorem txt_neg (d : Int) (h : d < 0) : txt d = (⟨#[45]⟩ : ByteArray) ++ txt (-d) := by
  have e1 : Lib.itoa d = 45 :: Lib.decDigits d.natAbs := by unfold Lib.itoa; rw [if_pos h]
  have e2 : Lib.itoa (-d) = Lib.decDigits d.natAbs := by unfold Lib.itoa; rw [if_neg (by omega)]; congr 1; omega
  apply ByteArray.ext
  show (Lib.itoa d).toArray = _
  rw [e1, ByteArray.data_append]
  show _ = #[45] ++ (Lib.itoa (-d)).toArray
  rw [e2]; simp
theorem txt_size (u : Nat) : (txt (u : Int)).size = Lib.nDigits u := by
  have e : Lib.itoa (u : Int) = Lib.decDigits u := by unfold Lib.itoa; rw [if_neg (by omega)]; simp
  show (Lib.itoa (u : Int)).toArray.size = _
  rw [e]; simp [Lib.decDigits_length]
theorem txt_pos (n : Int) (h1 : -1000000000000000000 < n) (h2 : n < 1000000000000000000) : 1 ≤ (txt n).size := by
  rcases Int.lt_or_le n 0 with h | h
  · rw [txt_neg n h, ByteArray.size_append]; show 1 ≤ 1 + _; omega
  · obtain ⟨u, rfl⟩ : ∃ u : Nat, n = u := ⟨n.toNat, by omega⟩
    rw [txt_size]; exact Lib.nDigits_pos u
theorem ba_assoc (a b c : ByteArray) : a ++ b ++ c = a ++ (b ++ c) := ByteArray.append_assoc
theorem ba_ext {a b : ByteArray} (h : a.data.toList = b.data.toList) : a = b := ByteArray.ext (Array.toList_inj.1 h)

/-- A reference's text, its column's name known. -/
def refTxt (r : Int) (a b : Bool) (n : ByteArray) : ByteArray := (((if b then (⟨#[36]⟩ : ByteArray) else ⟨#[]⟩) ++ n ++ (if a then (⟨#[36]⟩ : ByteArray) else ⟨#[]⟩)) ++ txt r)
theorem specRefText_is (k : Nat) (r c : Int) (a b : Bool) (h : goodRefB r c = true) (n : ByteArray) (hn : spec_ColName.f k c = some n) (hs : n.size ≤ 1000) : spec_RefText.f k r c a b = some (refTxt r a b n) := by
  have hb : 1 ≤ r ∧ r ≤ 1000 := by unfold goodRefB at h; have := of_decide_eq_true h; omega
  have ht := txt_le r (by omega) (by omega)
  have z0 : (⟨#[]⟩ : ByteArray).size = 0 := rfl
  have z1 : (⟨#[36]⟩ : ByteArray).size = 1 := rfl
  unfold spec_RefText.f spec_l3Fix.f refTxt
  rw [specGoodRef_is, h, hn, l1Num_is r (by omega) (by omega)]
  cases a <;> cases b <;> simp only [Option.bind_some, if_true, if_false, Bool.false_eq_true, ByteArray.size_append, z0, z1] <;> rw [if_pos (by omega), if_pos (by omega), if_pos (by omega)]
theorem implRefText_is (k : Nat) (r c : Int) (a b : Bool) (h : goodRefB r c = true) (n : ByteArray) (hn : impl_ColName.f k c = some n) (hs : n.size ≤ 1000) : impl_RefText.f (k + 1) r c a b = some (refTxt r a b n) := by
  have hb : 1 ≤ r ∧ r ≤ 1000 := by unfold goodRefB at h; have := of_decide_eq_true h; omega
  have ht := txt_le r (by omega) (by omega)
  have z0 : (⟨#[]⟩ : ByteArray).size = 0 := rfl
  have z1 : (⟨#[36]⟩ : ByteArray).size = 1 := rfl
  have z2 : ∀ x : ByteArray, x ++ (⟨#[]⟩ : ByteArray) = x := fun x => ByteArray.append_empty
  unfold impl_RefText.f refTxt
  rw [implGoodRef_is, h]
  simp only [Option.bind_some, if_true, impl_RefText.j0, hn, itoa_is r (by omega) (by omega)]
  cases a <;> cases b <;> simp only [Option.bind_some, if_true, if_false, Bool.false_eq_true, ByteArray.size_append, z0, z1, z2] <;> (first | (rw [if_pos (by omega), if_pos (by omega), if_pos (by omega)]) | (rw [if_pos (by omega), if_pos (by omega)]))

/-! Reading a reference: both parse alike but for the row's number, and both hold what they read against its text. -/
def isL (x : Int) : Bool := decide (65 ≤ x ∧ x ≤ 90)
def dolB (L : List Int) : Bool := match L with | x :: _ => decide (x = 36) | [] => false
def cutD (L : List Int) : List Int := if dolB L then L.tail else L
def dolL (b : Bool) : List Int := if b then [36] else []
theorem dol_split (L : List Int) : L = dolL (dolB L) ++ cutD L := by
  unfold cutD dolL
  cases L with
  | nil => rfl
  | cons x l =>
    by_cases h : x = 36
    · subst h; simp [dolB]
    · simp [dolB, h]
theorem tw_le (L : List Int) : (L.takeWhile isL).length ≤ L.length := (List.takeWhile_sublist isL).length_le
/-- The digits' number; -1 where there are others, or none, or more than six. -/
def l2go (acc : Int) : List Int → Int
  | [] => acc
  | d :: r => if 48 ≤ d ∧ d ≤ 57 then l2go (acc * 10 + (d - 48)) r else -1
def l2L (L : List Int) : Int := if L.length < 1 then -1 else if L.length > 6 then -1 else l2go 0 L
def p10 : Nat → Int
  | 0 => 1
  | n + 1 => p10 n * 10
theorem p10_le : ∀ i : Nat, i ≤ 6 → 1 ≤ p10 i ∧ p10 i ≤ 1000000 := by
  intro i h
  rcases (by omega : i = 0 ∨ i = 1 ∨ i = 2 ∨ i = 3 ∨ i = 4 ∨ i = 5 ∨ i = 6) with rfl | rfl | rfl | rfl | rfl | rfl | rfl <;> decide
theorem at_bt (s : ByteArray) (i : Nat) (h : i < (bytesOf s).length) : (bytesOf s)[i] = bt s (i : Int) := by
  have := rd_bytesOf s (i : Int)
  unfold rd at this
  rw [Int.toNat_natCast, List.getD_eq_getElem?_getD, List.getElem?_eq_getElem h] at this
  exact this
theorem l2_l0 (s : ByteArray) : ∀ (n k i : Nat) (acc : Int), i + n = s.size → i + n ≤ 6 → 0 ≤ acc → acc < p10 i → spec_l2Number.l0 (k + n + 1) s acc (i : Int) = some (l2go acc ((bytesOf s).drop i)) := by
  intro n
  induction n with
  | zero =>
    intro k i acc hi h6 h0 h1
    simp only [spec_l2Number.l0]
    rw [if_neg (by omega), List.drop_eq_nil_of_le (by rw [bytesOf_length]; omega)]
    rfl
  | succ n ih =>
    intro k i acc hi h6 h0 h1
    have hlt : i < (bytesOf s).length := by rw [bytesOf_length]; omega
    have hb := at_bt s i hlt
    have hr := bt_range s (i : Int)
    have hp := p10_le i (by omega)
    have ih' := ih k (i + 1)
    obtain ⟨m, hm⟩ : ∃ m, m = k + n + 1 := ⟨_, rfl⟩
    rw [show k + (n + 1) + 1 = m + 1 from by omega]
    rw [← hm] at ih'
    simp only [spec_l2Number.l0, spec_l1Digit.f]
    rw [if_pos (by omega), if_pos (by omega), List.drop_eq_getElem_cons hlt, hb]
    show _ = some (if 48 ≤ bt s (i : Int) ∧ bt s (i : Int) ≤ 57 then l2go (acc * 10 + (bt s (i : Int) - 48)) ((bytesOf s).drop (i + 1)) else -1)
    by_cases a : bt s (i : Int) ≥ 48
    · rw [if_pos a]
      simp only [Option.bind_some]
      by_cases b : bt s (i : Int) ≤ 57
      · rw [if_pos (by simp [b]), if_pos ⟨a, b⟩, wrap_id (x := acc * 10) (by omega) (by omega), show (bt s (i : Int) - 48) % 256 = bt s (i : Int) - 48 from by omega, wrap_id (by omega) (by omega), wrap_id (by omega) (by omega), show (i : Int) + 1 = ((i + 1 : Nat) : Int) from by omega]
        exact ih' _ (by omega) (by omega) (by omega) (by show _ < p10 i * 10; omega)
      · rw [if_neg (by simp [b]), if_neg (by omega)]
    · rw [if_neg a, if_neg (by omega)]; rfl
theorem l2_is (k : Nat) (s : ByteArray) : spec_l2Number.f (k + 10) s = some (l2L (bytesOf s)) := by
  have hz := bytesOf_length s
  unfold spec_l2Number.f l2L
  by_cases h1 : s.size < 1
  · rw [if_pos (by omega), if_pos (by omega)]; simp [spec_l2Number.j0]
  · rw [if_neg (by omega), if_neg (by omega)]
    by_cases h2 : s.size > 6
    · rw [decide_eq_true (by omega), if_pos (by omega)]; simp [spec_l2Number.j0]
    · rw [decide_eq_false (by omega), if_neg (by omega)]
      simp only [spec_l2Number.j0]
      rw [if_neg (by decide)]
      have := l2_l0 s s.size (k + 8 - s.size) 0 0 (by omega) (by omega) (by omega) (by decide)
      rw [show k + 8 - s.size + s.size + 1 = k + 9 from by omega] at this
      simpa using this
/-! the loops over the letters -/
theorem tw_at : ∀ (L : List Int) (q : Nat), q < (L.takeWhile isL).length → ∃ h' : q < L.length, isL (L[q]'h') = true
  | [], q, h => by simp at h
  | x :: l, q, h => by
    by_cases hx : isL x = true
    · rw [List.takeWhile_cons_of_pos hx] at h
      cases q with
      | zero => exact ⟨by simp, hx⟩
      | succ q =>
        obtain ⟨h', e⟩ := tw_at l q (by simpa using h)
        exact ⟨by simpa using h', by simpa using e⟩
    · rw [List.takeWhile_cons_of_neg hx] at h; simp at h
theorem tw_end (L : List Int) (h : (L.takeWhile isL).length < L.length) : isL (L[(L.takeWhile isL).length]'h) = false := by
  induction L with
  | nil => simp at h
  | cons x l ih =>
    by_cases hx : isL x = true
    · have e : ((x :: l).takeWhile isL).length = (l.takeWhile isL).length + 1 := by rw [List.takeWhile_cons_of_pos hx]; rfl
      have h2 : (l.takeWhile isL).length < l.length := by rw [e] at h; simpa using h
      have := ih h2
      simpa [e] using this
    · have e : ((x :: l).takeWhile isL).length = 0 := by rw [List.takeWhile_cons_of_neg hx]; rfl
      simpa [e] using hx
theorem spec_l0 (s : ByteArray) (r c : Int) (p q : Bool) (fr : Int) : ∀ (n k i : Nat), (∀ z, z < n → ∃ h : i + z < (bytesOf s).length, isL ((bytesOf s)[i + z]'h) = true) → (∀ h : i + n < (bytesOf s).length, isL ((bytesOf s)[i + n]'h) = false) → s.size ≤ 1048576 → i + n ≤ s.size →
    spec_ReadRef.l0 (k + n + 1) s (i : Int) fr r c p q = spec_ReadRef.j3 k s ((i + n : Nat) : Int) fr r c p q := by
  intro n
  induction n with
  | zero =>
    intro k i _ h2 hs hi
    have h2' := h2
    simp only [spec_ReadRef.l0, Nat.add_zero]
    by_cases h : i < s.size
    · have hl : i < (bytesOf s).length := by rw [bytesOf_length]; exact h
      have hb := at_bt s i hl
      have hn := h2' hl
      simp only [Nat.add_zero] at hn
      rw [hb] at hn
      unfold isL at hn
      have hn' := of_decide_eq_false hn
      rw [if_pos (by omega), if_pos (by omega)]
      by_cases a : bt s (i : Int) ≥ 65
      · rw [if_pos a, if_neg (by omega)]
      · rw [if_neg a]
    · rw [if_neg (by omega)]
  | succ n ih =>
    intro k i h1 h2 hs hi
    obtain ⟨hl, hn⟩ := h1 0 (by omega)
    simp only [Nat.add_zero] at hl hn
    rw [at_bt s i hl] at hn
    unfold isL at hn
    have hn' := of_decide_eq_true hn
    rw [bytesOf_length] at hl
    have ih' := ih k (i + 1) (fun z hz => by
      obtain ⟨h, e⟩ := h1 (z + 1) (by omega)
      exact ⟨by omega, by have e2 : i + 1 + z = i + (z + 1) := by omega
                          simp only [e2]; exact e⟩) (fun h => by
      have e2 : i + 1 + n = i + (n + 1) := by omega
      simp only [e2] at h ⊢; exact h2 h) hs (by omega)
    obtain ⟨m, hm⟩ : ∃ m, m = k + n + 1 := ⟨_, rfl⟩
    rw [show k + (n + 1) + 1 = m + 1 from by omega]
    rw [← hm] at ih'
    simp only [spec_ReadRef.l0]
    rw [if_pos (by omega), if_pos (by omega), if_pos (by omega), if_pos (by omega), wrap_id (by omega) (by omega), show (i : Int) + 1 = ((i + 1 : Nat) : Int) from by omega, ih']
    congr 1; omega
theorem impl_l0 (x s : ByteArray) (r c : Int) (p q : Bool) : ∀ (n k i : Nat), (∀ z, z < n → ∃ h : i + z < (bytesOf s).length, isL ((bytesOf s)[i + z]'h) = true) → (∀ h : i + n < (bytesOf s).length, isL ((bytesOf s)[i + n]'h) = false) → s.size ≤ 1048576 → i + n ≤ s.size →
    impl_ReadRef.l0 (k + n + 1) x s (i : Int) r c p q = impl_ReadRef.j2 k x s ((i + n : Nat) : Int) r c p q := by
  intro n
  induction n with
  | zero =>
    intro k i _ h2 hs hi
    have h2' := h2
    simp only [impl_ReadRef.l0, Nat.add_zero]
    by_cases h : i < s.size
    · have hl : i < (bytesOf s).length := by rw [bytesOf_length]; exact h
      have hb := at_bt s i hl
      have hn := h2' hl
      simp only [Nat.add_zero] at hn
      rw [hb] at hn
      unfold isL at hn
      have hn' := of_decide_eq_false hn
      rw [if_pos (by omega), if_pos (by omega)]
      by_cases a : bt s (i : Int) ≥ 65
      · rw [if_pos a, if_neg (by omega)]
      · rw [if_neg a]
    · rw [if_neg (by omega)]
  | succ n ih =>
    intro k i h1 h2 hs hi
    obtain ⟨hl, hn⟩ := h1 0 (by omega)
    simp only [Nat.add_zero] at hl hn
    rw [at_bt s i hl] at hn
    unfold isL at hn
    have hn' := of_decide_eq_true hn
    rw [bytesOf_length] at hl
    have ih' := ih k (i + 1) (fun z hz => by
      obtain ⟨h, e⟩ := h1 (z + 1) (by omega)
      exact ⟨by omega, by have e2 : i + 1 + z = i + (z + 1) := by omega
                          simp only [e2]; exact e⟩) (fun h => by
      have e2 : i + 1 + n = i + (n + 1) := by omega
      simp only [e2] at h ⊢; exact h2 h) hs (by omega)
    obtain ⟨m, hm⟩ : ∃ m, m = k + n + 1 := ⟨_, rfl⟩
    rw [show k + (n + 1) + 1 = m + 1 from by omega]
    rw [← hm] at ih'
    simp only [impl_ReadRef.l0]
    rw [if_pos (by omega), if_pos (by omega), if_pos (by omega), if_pos (by omega), wrap_id (by omega) (by omega), show (i : Int) + 1 = ((i + 1 : Nat) : Int) from by omega, ih']
    congr 1; omega
/-! what they read, in words of lists -/
theorem bytes_ext (s : ByteArray) (i j : Nat) : bytesOf (s.extract i j) = ((bytesOf s).drop i).take (j - i) := by
  unfold bytesOf
  rw [ByteArray.data_extract, Array.toList_extract, List.extract, List.map_take, List.map_drop]
def lettersOf (L : List Int) : List Int := (cutD L).takeWhile isL
def behindL (L : List Int) : List Int := (cutD L).drop (lettersOf L).length
def rowL (L : List Int) : List Int := cutD (behindL L)
/-- What is told of a row's number read. -/
def finV (s : ByteArray) (row : Int) : Int × Int × Bool × Bool × Bool :=
  if goodRefB row (numL (lettersOf (bytesOf s))) = true ∧ refTxt row (dolB (behindL (bytesOf s))) (dolB (bytesOf s)) (strOfNums (cnL (numL (lettersOf (bytesOf s))))) = s then (row, numL (lettersOf (bytesOf s)), dolB (behindL (bytesOf s)), dolB (bytesOf s), true) else (0, 0, false, false, false)
theorem refTxt_eq (row : Int) (a b : Bool) (n s : ByteArray) : ((refTxt row a b n).toList = s.toList) ↔ refTxt row a b n = s := by
  rw [toList_iff]; exact ⟨bytesOf_inj, fun h => by rw [h]⟩
theorem cn_le (c : Int) : (strOfNums (cnL c)).size ≤ 1000 := by
  rw [strOfNums_size]; unfold cnL; (repeat' split) <;> simp
theorem specJ5 (k : Nat) (s : ByteArray) (i c : Int) (j0 : Int) (a b : Bool) (R : List Int) (hi : 0 ≤ i) (hi2 : i ≤ s.size) (hR : (bytesOf s).drop i.toNat = R) :
    spec_ReadRef.j5 (k + 11) s i j0 c a b = some (if goodRefB (l2L R) c = true ∧ refTxt (l2L R) a b (strOfNums (cnL c)) = s then (l2L R, c, a, b, true) else (0, 0, false, false, false)) := by
  have hb : bytesOf (s.extract i.toNat s.size) = R := by
    rw [bytes_ext, ← hR]; exact List.take_of_length_le (by rw [List.length_drop, bytesOf_length]; omega)
  simp only [spec_ReadRef.j5]
  rw [if_pos hi, if_pos hi2, l2_is k, hb]
  simp only [Option.bind_some, specGoodRef_is]
  by_cases g : goodRefB (l2L R) c = true
  · rw [if_pos g, specRefText_is (k + 10) (l2L R) c a b g _ (colName_is (k + 6) c) (cn_le c)]
    simp only [Option.bind_some, refTxt_eq]
    by_cases e : refTxt (l2L R) a b (strOfNums (cnL c)) = s
    · rw [if_pos e, if_pos ⟨g, e⟩]
    · rw [if_neg e, if_neg (fun h => e h.2)]
  · rw [if_neg g, if_neg (fun h => g h.1)]
theorem dol_at (s : ByteArray) (i : Nat) (h : i < s.size) : dolB ((bytesOf s).drop i) = (bt s (i : Int) == 36) := by
  have hl : i < (bytesOf s).length := by rw [bytesOf_length]; exact h
  rw [List.drop_eq_getElem_cons hl, at_bt s i hl]
  unfold dolB
  by_cases e : bt s (i : Int) = 36
  · simp [e]
  · simp [e]
theorem dol_end (s : ByteArray) (i : Nat) (h : s.size ≤ i) : dolB ((bytesOf s).drop i) = false := by
  rw [List.drop_eq_nil_of_le (by rw [bytesOf_length]; exact h)]; rfl
theorem cut_drop (L : List Int) : cutD L = L.drop (if dolB L then 1 else 0) := by
  unfold cutD; split <;> simp
theorem cut_at (s : ByteArray) (i : Nat) : cutD ((bytesOf s).drop i) = (bytesOf s).drop (i + if dolB ((bytesOf s).drop i) then 1 else 0) := by
  rw [cut_drop, List.drop_drop]
theorem dol_lt (s : ByteArray) (i : Nat) (h : dolB ((bytesOf s).drop i) = true) : i < s.size := by
  rcases Nat.lt_or_ge i s.size with h' | h'
  · exact h'
  · rw [dol_end s i h'] at h; cases h
theorem specJ3 (k : Nat) (s : ByteArray) (i fr : Nat) (j0 c0 : Int) (b : Bool) (h1 : fr ≤ i) (h2 : i ≤ s.size) (hs : s.size ≤ 1048576) :
    spec_ReadRef.j3 (k + 15) s (i : Int) (fr : Int) j0 c0 false b =
      some (if goodRefB (l2L (cutD ((bytesOf s).drop i))) (numL (((bytesOf s).drop fr).take (i - fr))) = true ∧ refTxt (l2L (cutD ((bytesOf s).drop i))) (dolB ((bytesOf s).drop i)) b (strOfNums (cnL (numL (((bytesOf s).drop fr).take (i - fr))))) = s then (l2L (cutD ((bytesOf s).drop i)), numL (((bytesOf s).drop fr).take (i - fr)), dolB ((bytesOf s).drop i), b, true) else (0, 0, false, false, false)) := by
  simp only [spec_ReadRef.j3]
  rw [if_pos (by omega), if_pos (by omega), if_pos (by omega), specNumber_is k, bytes_ext, Int.toNat_natCast, Int.toNat_natCast]
  simp only [Option.bind_some]
  by_cases h : i < s.size
  · rw [if_pos (by omega), if_pos (by omega), ← dol_at s i h]
    simp only [spec_ReadRef.j4]
    by_cases d : dolB ((bytesOf s).drop i) = true
    · rw [if_pos d, wrap_id (by omega) (by omega), specJ5 (k + 2) s _ _ j0 true b (cutD ((bytesOf s).drop i)) (by omega) (by omega) (by rw [cut_at, d]; congr 1), d]
    · rw [if_neg d, specJ5 (k + 2) s _ _ j0 false b (cutD ((bytesOf s).drop i)) (by omega) (by omega) (by rw [cut_at, if_neg d]; rw [Int.toNat_natCast]; rfl)]
      rw [show dolB ((bytesOf s).drop i) = false from by simpa using d]
  · rw [if_neg (by omega)]
    have d := dol_end s i (by omega)
    simp only [spec_ReadRef.j4]
    rw [if_neg (by decide), specJ5 (k + 2) s _ _ j0 false b (cutD ((bytesOf s).drop i)) (by omega) (by omega) (by rw [cut_at, d]; rw [Int.toNat_natCast]; rfl), d]
theorem letters_h1 (s : ByteArray) (i : Nat) (hc : cutD (bytesOf s) = (bytesOf s).drop i) : ∀ z, z < (lettersOf (bytesOf s)).length → ∃ h : i + z < (bytesOf s).length, isL ((bytesOf s)[i + z]'h) = true := by
  intro z hz
  obtain ⟨h, e⟩ := tw_at _ z hz
  simp only [hc] at h e
  have h' : i + z < (bytesOf s).length := by rw [List.length_drop] at h; omega
  exact ⟨h', by rw [List.getElem_drop] at e; exact e⟩
theorem letters_h2 (s : ByteArray) (i : Nat) (hc : cutD (bytesOf s) = (bytesOf s).drop i) : ∀ h : i + (lettersOf (bytesOf s)).length < (bytesOf s).length, isL ((bytesOf s)[i + (lettersOf (bytesOf s)).length]'h) = false := by
  intro h
  have := tw_end (cutD (bytesOf s)) (by show (lettersOf (bytesOf s)).length < _; rw [hc, List.length_drop]; omega)
  simp only [hc, List.getElem_drop] at this
  have e : ((bytesOf s).drop i).takeWhile isL = lettersOf (bytesOf s) := by unfold lettersOf; rw [hc]
  simp only [e] at this
  exact this
theorem letters_take (s : ByteArray) (i : Nat) (hc : cutD (bytesOf s) = (bytesOf s).drop i) : ((bytesOf s).drop i).take (lettersOf (bytesOf s)).length = lettersOf (bytesOf s) := by
  have := List.takeWhile_prefix isL (l := cutD (bytesOf s))
  unfold lettersOf
  rw [← hc]
  exact (List.prefix_iff_eq_take.1 this).symm
theorem letters_le (s : ByteArray) (i : Nat) (hc : cutD (bytesOf s) = (bytesOf s).drop i) : (lettersOf (bytesOf s)).length ≤ s.size - i := by
  have := tw_le (cutD (bytesOf s))
  rw [hc, List.length_drop, bytesOf_length] at this
  unfold lettersOf
  rw [hc]; exact this
theorem specL0_all (s : ByteArray) (i : Nat) (hs : s.size ≤ 1048576) (hi : i ≤ s.size) (hc : cutD (bytesOf s) = (bytesOf s).drop i) (k : Nat) (hk : s.size + 50 ≤ k) :
    spec_ReadRef.l0 k s (i : Int) (i : Int) 0 0 false (dolB (bytesOf s)) = some (finV s (l2L (rowL (bytesOf s)))) := by
  have hl := letters_le s i hc
  have := spec_l0 s 0 0 false (dolB (bytesOf s)) (i : Int) (lettersOf (bytesOf s)).length (k - (lettersOf (bytesOf s)).length - 1) i (letters_h1 s i hc) (letters_h2 s i hc) hs (by omega)
  rw [show k - (lettersOf (bytesOf s)).length - 1 + (lettersOf (bytesOf s)).length + 1 = k from by omega] at this
  rw [this]
  have h3 := specJ3 (k - (lettersOf (bytesOf s)).length - 16) s (i + (lettersOf (bytesOf s)).length) i 0 0 (dolB (bytesOf s)) (by omega) (by omega) hs
  rw [show k - (lettersOf (bytesOf s)).length - 16 + 15 = k - (lettersOf (bytesOf s)).length - 1 from by omega] at h3
  rw [h3]
  rw [show i + (lettersOf (bytesOf s)).length - i = (lettersOf (bytesOf s)).length from by omega, letters_take s i hc]
  have e : behindL (bytesOf s) = (bytesOf s).drop (i + (lettersOf (bytesOf s)).length) := by unfold behindL; rw [hc, List.drop_drop]
  unfold finV rowL
  rw [e]
theorem specReadRef_is (s : ByteArray) (hs : s.size ≤ 1048576) : spec_ReadRef.f (s.size + 60) s = some (finV s (l2L (rowL (bytesOf s)))) := by
  unfold spec_ReadRef.f
  by_cases h : 0 < s.size
  · rw [if_pos (by omega)]
    have hd := dol_at s 0 h
    simp only [List.drop_zero] at hd
    rw [show ((0 : Nat) : Int) = 0 from rfl] at hd
    rw [← hd]
    show spec_ReadRef.j0 (s.size + 59 + 1) _ _ _ _ _ _ _ = _
    simp only [spec_ReadRef.j0]
    by_cases d : dolB (bytesOf s) = true
    · rw [if_pos d, wrap_id (by omega) (by omega)]
      show spec_ReadRef.j1 (s.size + 58 + 1) _ _ _ _ _ _ = _
      simp only [spec_ReadRef.j1]
      have := specL0_all s 1 hs (by omega) (by rw [cut_drop, d]; rfl) (s.size + 58) (by omega)
      rw [d] at this
      exact this
    · rw [if_neg d]
      show spec_ReadRef.j1 (s.size + 58 + 1) _ _ _ _ _ _ = _
      simp only [spec_ReadRef.j1]
      have := specL0_all s 0 hs (by omega) (by rw [cut_drop, if_neg d]) (s.size + 58) (by omega)
      rw [show dolB (bytesOf s) = false from by simpa using d] at this
      exact this
  · rw [if_neg (by omega)]
    have d : dolB (bytesOf s) = false := by have := dol_end s 0 (by omega); simpa using this
    show spec_ReadRef.j0 (s.size + 59 + 1) _ _ _ _ _ _ _ = _
    simp only [spec_ReadRef.j0]
    rw [if_neg (by decide)]
    show spec_ReadRef.j1 (s.size + 58 + 1) _ _ _ _ _ _ = _
    simp only [spec_ReadRef.j1]
    have := specL0_all s 0 hs (by omega) (by rw [cut_drop, d]; rfl) (s.size + 58) (by omega)
    rw [d] at this
    exact this
/-! the program's -/
theorem hp_dol (s : ByteArray) : strings_HasPrefix.f s (⟨#[36]⟩ : ByteArray) = some (dolB (bytesOf s)) := by
  unfold strings_HasPrefix.f Lib.hasPrefix bytesOf
  congr 1
  show List.isPrefixOf [36] s.data.toList = _
  cases s.data.toList with
  | nil => rfl
  | cons x l =>
    simp only [List.isPrefixOf, Bool.and_true, List.map_cons, dolB]
    by_cases h : x = 36
    · subst h; rfl
    · have h1 : (36 == x) = false := by simpa using fun e => h e.symm
      have h2 : ¬ ((x.toNat : Int) = 36) := fun e => h (by have := UInt8.toNat_inj.1 (show x.toNat = (36 : UInt8).toNat from by have e2 : (36 : UInt8).toNat = 36 := rfl; omega); exact this)
      rw [h1, decide_eq_false h2]
def rowI (R : List Int) : Int := (atoiV (strOfNums R)).1
theorem atoi_is (x : ByteArray) (R : List Int) (h : bytesOf x = R) (hs : x.size ≤ 1000) : strconv_Atoi.f x = some (rowI R, (atoiV (strOfNums R)).2) := by
  unfold strconv_Atoi.f rowI
  rw [if_pos (by omega), ← h, strOfNums_bytesOf]
theorem implJ3R (k : Nat) (s x : ByteArray) (r0 c : Int) (a b : Bool) (R : List Int) (hR : bytesOf x = R) (hx : x.size ≤ 1000) :
    impl_ReadRef.j3 (k + 7) s x r0 c a b = some (if goodRefB (rowI R) c = true ∧ refTxt (rowI R) a b (strOfNums (cnL c)) = s then (rowI R, c, a, b, true) else (0, 0, false, false, false)) := by
  simp only [impl_ReadRef.j3]
  rw [atoi_is x R hR hx]
  simp only [Option.bind_some, implGoodRef_is]
  by_cases g : goodRefB (rowI R) c = true
  · rw [if_pos g, implRefText_is (k + 5) (rowI R) c a b g _ (by rw [← colName_same]; exact colName_is (k + 1) c) (cn_le c)]
    simp only [Option.bind_some, refTxt_eq]
    by_cases e : refTxt (rowI R) a b (strOfNums (cnL c)) = s
    · rw [if_pos e, if_pos ⟨g, e⟩]
    · rw [if_neg e, if_neg (fun h => e h.2)]
  · rw [if_neg g, if_neg (fun h => g h.1)]
theorem implJ2R (k : Nat) (s x : ByteArray) (n : Nat) (r0 c0 : Int) (b : Bool) (hn : n ≤ x.size) (hx : x.size ≤ 1000) :
    impl_ReadRef.j2 (k + 8) s x (n : Int) r0 c0 false b =
      some (if goodRefB (rowI (cutD ((bytesOf x).drop n))) (numL ((bytesOf x).take n)) = true ∧ refTxt (rowI (cutD ((bytesOf x).drop n))) (dolB ((bytesOf x).drop n)) b (strOfNums (cnL (numL ((bytesOf x).take n)))) = s then (rowI (cutD ((bytesOf x).drop n)), numL ((bytesOf x).take n), dolB ((bytesOf x).drop n), b, true) else (0, 0, false, false, false)) := by
  have e1 : bytesOf (x.extract 0 n) = (bytesOf x).take n := by rw [bytes_ext]; simp
  have e2 : bytesOf (x.extract n x.size) = (bytesOf x).drop n := by
    rw [bytes_ext]; exact List.take_of_length_le (by rw [List.length_drop, bytesOf_length]; omega)
  have z2 : (x.extract n x.size).size = x.size - n := by rw [ByteArray.size_extract]; omega
  simp only [impl_ReadRef.j2]
  rw [if_pos (by omega), if_pos (by omega), Int.toNat_natCast, implNumber_is (k + 2), e1, hp_dol, e2]
  simp only [Option.bind_some]
  by_cases d : dolB ((bytesOf x).drop n) = true
  · have hlt := dol_lt x n d
    rw [if_pos d, if_pos (by omega)]
    have e3 : bytesOf ((x.extract n x.size).extract 1 (x.extract n x.size).size) = cutD ((bytesOf x).drop n) := by
      rw [bytes_ext, e2, cut_drop, d, z2]
      exact List.take_of_length_le (by rw [List.length_drop, List.length_drop, bytesOf_length]; show _ - 1 ≤ _; omega)
    rw [implJ3R k s _ r0 _ true b _ e3 (by rw [ByteArray.size_extract, z2]; omega), d]
  · rw [if_neg d]
    have e3 : bytesOf (x.extract n x.size) = cutD ((bytesOf x).drop n) := by rw [e2, cut_drop, if_neg d, List.drop_zero]
    rw [implJ3R k s _ r0 _ false b _ e3 (by omega), show dolB ((bytesOf x).drop n) = false from by simpa using d]
theorem implRest (s x : ByteArray) (hx : x.size ≤ 1000) (b : Bool) (hb : dolB (bytesOf s) = b) (hc : bytesOf x = cutD (bytesOf s)) (k : Nat) (hk : x.size + 50 ≤ k) :
    impl_ReadRef.j0 (k + 1) s x 0 0 false b = some (finV s (rowI (rowL (bytesOf s)))) := by
  simp only [impl_ReadRef.j0]
  have h1 : ∀ z, z < (lettersOf (bytesOf s)).length → ∃ h : 0 + z < (bytesOf x).length, isL ((bytesOf x)[0 + z]'h) = true := by
    intro z hz
    obtain ⟨h, e⟩ := tw_at _ z hz
    simp only [← hc] at h e
    exact ⟨by simpa using h, by simpa using e⟩
  have h2 : ∀ h : 0 + (lettersOf (bytesOf s)).length < (bytesOf x).length, isL ((bytesOf x)[0 + (lettersOf (bytesOf s)).length]'h) = false := by
    intro h
    have := tw_end (cutD (bytesOf s)) (by show (lettersOf (bytesOf s)).length < _; rw [← hc]; omega)
    have e : (cutD (bytesOf s)).takeWhile isL = lettersOf (bytesOf s) := rfl
    simp only [e] at this
    simp only [← hc] at this
    simpa using this
  have hl : (lettersOf (bytesOf s)).length ≤ x.size := by
    have := tw_le (cutD (bytesOf s)); rw [← bytesOf_length x, hc]; exact this
  have h0 := impl_l0 s x 0 0 false b (lettersOf (bytesOf s)).length (k - (lettersOf (bytesOf s)).length - 1) 0 h1 h2 (by omega) (by omega)
  rw [show k - (lettersOf (bytesOf s)).length - 1 + (lettersOf (bytesOf s)).length + 1 = k from by omega] at h0
  rw [show ((0 : Nat) : Int) = 0 from rfl] at h0
  rw [h0, Nat.zero_add]
  have h3 := implJ2R (k - (lettersOf (bytesOf s)).length - 9) s x (lettersOf (bytesOf s)).length 0 0 b hl hx
  rw [show k - (lettersOf (bytesOf s)).length - 9 + 8 = k - (lettersOf (bytesOf s)).length - 1 from by omega] at h3
  have e1 : (bytesOf x).take (lettersOf (bytesOf s)).length = lettersOf (bytesOf s) := by
    rw [hc]; exact (List.prefix_iff_eq_take.1 (List.takeWhile_prefix isL)).symm
  have e2 : (bytesOf x).drop (lettersOf (bytesOf s)).length = behindL (bytesOf s) := by unfold behindL; rw [hc]
  rw [h3, e1, e2]
  unfold finV rowL
  rw [hb]
theorem implReadRef_is (s : ByteArray) (hs : s.size ≤ 12) : impl_ReadRef.f (s.size + 60) s = some (finV s (rowI (rowL (bytesOf s)))) := by
  unfold impl_ReadRef.f
  rw [if_neg (by omega), hp_dol]
  simp only [Option.bind_some]
  by_cases d : dolB (bytesOf s) = true
  · have hlt : 0 < s.size := by have := dol_lt s 0 (by simpa using d); exact this
    rw [if_pos d, if_pos (by omega)]
    have z : (s.extract 1 s.size).size = s.size - 1 := by rw [ByteArray.size_extract]; omega
    have e : bytesOf (s.extract 1 s.size) = cutD (bytesOf s) := by
      rw [bytes_ext, cut_drop, d]
      exact List.take_of_length_le (by rw [List.length_drop, bytesOf_length]; exact Nat.le_refl _)
    exact implRest s _ (by omega) true d e (s.size + 59) (by omega)
  · rw [if_neg d]
    exact implRest s s (by omega) false (by simpa using d) (by rw [cut_drop, if_neg d, List.drop_zero]) (s.size + 59) (by omega)

/-! a reference's own text is read back -/
def txtL (r : Int) : List Int := bytesOf (txt r)
theorem bytes_app (x y : ByteArray) : bytesOf (x ++ y) = bytesOf x ++ bytesOf y := by
  unfold bytesOf; rw [ByteArray.data_append]; simp
theorem bytes_dol (b : Bool) : bytesOf (if b then (⟨#[36]⟩ : ByteArray) else ⟨#[]⟩) = dolL b := by cases b <;> rfl
theorem cn_letters (c : Int) : ∀ x ∈ cnL c, isL x = true := by
  intro x hx
  unfold isL
  refine decide_eq_true ?_
  unfold cnL at hx
  split at hx
  · cases hx
  · split at hx
    · cases hx
    · split at hx
      · simp at hx; omega
      · simp at hx; omega
theorem txtL_nat (u : Nat) : txtL (u : Int) = (Lib.decDigits u).map fun b => (b.toNat : Int) := by
  have e : Lib.itoa (u : Int) = Lib.decDigits u := by unfold Lib.itoa; rw [if_neg (by omega)]; simp
  unfold txtL bytesOf txt; rw [e]
theorem txtL_digit (u : Nat) : ∀ x ∈ txtL (u : Int), 48 ≤ x ∧ x ≤ 57 := by
  intro x hx
  rw [txtL_nat, Lib.decDigits_eq, List.map_map] at hx
  obtain ⟨t, _, rfl⟩ := List.mem_map.1 hx
  simp only [Function.comp, Lib.dg, UInt8.toNat_ofNat']
  omega
theorem tw_none (l : List Int) (a : Bool) (h : ∀ x ∈ l, 48 ≤ x ∧ x ≤ 57) : (dolL a ++ l).takeWhile isL = [] := by
  cases a
  · cases l with
    | nil => rfl
    | cons x l =>
      have := h x (by simp)
      show (x :: l).takeWhile isL = []
      rw [List.takeWhile_cons_of_neg]
      unfold isL; simp; omega
  · show (36 :: l).takeWhile isL = []
    rw [List.takeWhile_cons_of_neg (by decide)]
theorem row_of (s : ByteArray) (r c : Int) (hr : 1 ≤ r) (h : refTxt r (dolB (behindL (bytesOf s))) (dolB (bytesOf s)) (strOfNums (cnL c)) = s) : rowL (bytesOf s) = txtL r := by
  obtain ⟨u, rfl⟩ : ∃ u : Nat, r = u := ⟨r.toNat, by omega⟩
  have hL : bytesOf s = dolL (dolB (bytesOf s)) ++ (cnL c ++ (dolL (dolB (behindL (bytesOf s))) ++ txtL (u : Int))) := by
    conv => lhs; rw [← h]
    unfold refTxt
    rw [bytes_app, bytes_app, bytes_app, bytes_dol, bytes_dol, bytesOf_strOfNums _ (cnL_ok c)]
    unfold txtL
    simp only [List.append_assoc]
  have hX : cutD (bytesOf s) = cnL c ++ (dolL (dolB (behindL (bytesOf s))) ++ txtL (u : Int)) := by
    have := dol_split (bytesOf s)
    exact List.append_cancel_left (this.symm.trans hL)
  have hlet : lettersOf (bytesOf s) = cnL c := by
    unfold lettersOf
    rw [hX, List.takeWhile_append_of_pos (cn_letters c), tw_none _ _ (txtL_digit u), List.append_nil]
  have hbeh : behindL (bytesOf s) = dolL (dolB (behindL (bytesOf s))) ++ txtL (u : Int) := by
    conv => lhs; unfold behindL
    rw [hlet, hX, List.drop_left]
  unfold rowL
  exact List.append_cancel_left ((dol_split (behindL (bytesOf s))).symm.trans hbeh)
theorem toNat_dig (d : Nat) (h : d ≤ 9) : ((UInt8.ofNat (48 + d)).toNat : Int) = 48 + d := by
  rw [UInt8.toNat_ofNat']; omega
theorem l2_txt (r : Int) (h1 : 1 ≤ r) (h2 : r ≤ 1000) : l2L (txtL r) = r := by
  obtain ⟨u, rfl⟩ : ∃ u : Nat, r = u := ⟨r.toNat, by omega⟩
  rw [txtL_nat]
  have st : ∀ (acc : Int) (d : Nat) (l : List Int), d ≤ 9 → l2go acc ((48 + (d : Int)) :: l) = l2go (acc * 10 + d) l := by
    intro acc d l hd
    show (if 48 ≤ 48 + (d : Int) ∧ 48 + (d : Int) ≤ 57 then l2go (acc * 10 + (48 + (d : Int) - 48)) l else -1) = _
    rw [if_pos (by omega), show (48 + (d : Int) - 48) = d from by omega]
  by_cases a : u < 10
  · rw [Lib.decDigits, dif_pos a]
    simp only [List.map_cons, List.map_nil, toNat_dig u (by omega)]
    show l2go 0 [48 + (u : Int)] = _
    rw [st 0 u [] (by omega)]; show (0 : Int) * 10 + u = u; omega
  · rw [Lib.decDigits, dif_neg a]
    by_cases b : u < 100
    · rw [Lib.decDigits, dif_pos (by omega)]
      simp only [List.map_append, List.map_cons, List.map_nil, toNat_dig (u / 10) (by omega), toNat_dig (u % 10) (by omega)]
      show l2go 0 [48 + ((u / 10 : Nat) : Int), 48 + ((u % 10 : Nat) : Int)] = _
      rw [st 0 _ _ (by omega), st _ _ _ (by omega)]; show ((0 : Int) * 10 + (u / 10 : Nat)) * 10 + (u % 10 : Nat) = u; omega
    · rw [Lib.decDigits, dif_neg (by omega)]
      by_cases c : u < 1000
      · rw [Lib.decDigits, dif_pos (by omega)]
        simp only [List.map_append, List.map_cons, List.map_nil, toNat_dig (u / 10 / 10) (by omega), toNat_dig (u / 10 % 10) (by omega), toNat_dig (u % 10) (by omega)]
        show l2go 0 [48 + ((u / 10 / 10 : Nat) : Int), 48 + ((u / 10 % 10 : Nat) : Int), 48 + ((u % 10 : Nat) : Int)] = _
        rw [st 0 _ _ (by omega), st _ _ _ (by omega), st _ _ _ (by omega)]; show (((0 : Int) * 10 + (u / 10 / 10 : Nat)) * 10 + (u / 10 % 10 : Nat)) * 10 + (u % 10 : Nat) = u; omega
      · obtain rfl : u = 1000 := by omega
        rw [Lib.decDigits, dif_neg (by decide), Lib.decDigits, dif_pos (by decide)]
        rfl
theorem decFrom_snoc : ∀ (l : List UInt8) (acc n : Nat) (b : UInt8) (d : Nat), Lib.decFrom acc l = some n → Lib.digitVal b = some d → Lib.decFrom acc (l ++ [b]) = some (n * 10 + d)
  | [], acc, n, b, d, h, hb => by
    simp only [Lib.decFrom, Option.some.injEq] at h
    subst h
    simp [Lib.decFrom, hb]
  | a :: t, acc, n, b, d, h, hb => by
    simp only [Lib.decFrom, List.cons_append] at h ⊢
    cases ha : Lib.digitVal a with
    | none => simp [ha] at h
    | some e => simp only [ha] at h ⊢; exact decFrom_snoc t _ n b d h hb
theorem digitVal_dig (d : Nat) (h : d ≤ 9) : Lib.digitVal (UInt8.ofNat (48 + d)) = some d := by
  have e : (UInt8.ofNat (48 + d)).toNat = 48 + d := by rw [UInt8.toNat_ofNat']; omega
  unfold Lib.digitVal
  rw [e, if_pos (by omega)]; congr 1; omega
theorem decFrom_dec (u : Nat) : Lib.decFrom 0 (Lib.decDigits u) = some u := by
  induction u using Nat.strongRecOn with
  | _ u ih =>
    by_cases h : u < 10
    · rw [Lib.decDigits, dif_pos h]
      simp only [Lib.decFrom]; rw [digitVal_dig u (by omega)]; simp [Lib.decFrom]
    · rw [Lib.decDigits, dif_neg h, decFrom_snoc _ _ _ _ _ (ih (u / 10) (by omega)) (digitVal_dig (u % 10) (by omega))]
      congr 1; omega
theorem atoi_dec (u : Nat) (hl : (Lib.decDigits u).length ≤ 18) : Lib.atoiAll (Lib.decDigits u) = .ok (u : Int) := by
  rw [Lib.atoiAll_short _ hl]
  have hd := decFrom_dec u
  have hm : ∀ b ∈ Lib.decDigits u, 48 ≤ b.toNat := by
    intro b hb
    rw [Lib.decDigits_eq] at hb
    obtain ⟨t, _, rfl⟩ := List.mem_map.1 hb
    simp only [Lib.dg, UInt8.toNat_ofNat']; omega
  have hn : (Lib.decDigits u) ≠ [] := by
    intro h; have := Lib.decDigits_length u; rw [h] at this; have := Lib.nDigits_pos u; simp at *; omega
  revert hd hm hn
  generalize Lib.decDigits u = l
  intro hd hm hn
  cases l with
  | nil => exact absurd rfl hn
  | cons b r =>
    have h48 := hm b (by simp)
    have n1 : (b == 45) = false := by
      simp; intro e; subst e; exact absurd h48 (by decide)
    have n2 : (b == 43) = false := by
      simp; intro e; subst e; exact absurd h48 (by decide)
    show Lib.NumEnd.ofOption (if b == 45 then _ else if b == 43 then _ else (Lib.decNat (b :: r)).map fun (m : Nat) => (m : Int)) = _
    rw [n1, n2]
    simp only [Bool.false_eq_true, if_false]
    have e : Lib.decNat (b :: r) = some u := by unfold Lib.decNat; simp [hd]
    rw [e]; rfl
theorem rowI_txt (r : Int) (h1 : 1 ≤ r) (h2 : r ≤ 1000) : rowI (txtL r) = r := by
  obtain ⟨u, rfl⟩ : ∃ u : Nat, r = u := ⟨r.toNat, by omega⟩
  have e : Lib.itoa (u : Int) = Lib.decDigits u := by unfold Lib.itoa; rw [if_neg (by omega)]; simp
  have hl : (Lib.decDigits u).length ≤ 18 := by
    rw [Lib.decDigits_length]
    by_cases a : u < 10
    · rw [Lib.nDigits_small a]; omega
    · rw [Lib.nDigits_big a]
      by_cases b : u / 10 < 10
      · rw [Lib.nDigits_small b]; omega
      · rw [Lib.nDigits_big b]
        by_cases c : u / 10 / 10 < 10
        · rw [Lib.nDigits_small c]; omega
        · rw [Lib.nDigits_big c, Lib.nDigits_small (by omega)]; omega
  unfold rowI txtL
  rw [strOfNums_bytesOf]
  unfold atoiV
  have e2 : (txt (u : Int)).data.toList = Lib.decDigits u := by unfold txt; rw [e]
  rw [e2, atoi_dec u hl]
theorem good_row {r c : Int} (h : goodRefB r c = true) : 1 ≤ r ∧ r ≤ 1000 := by unfold goodRefB at h; have := of_decide_eq_true h; omega
theorem fin_same (s : ByteArray) : finV s (l2L (rowL (bytesOf s))) = finV s (rowI (rowL (bytesOf s))) := by
  by_cases h : goodRefB (l2L (rowL (bytesOf s))) (numL (lettersOf (bytesOf s))) = true ∧ refTxt (l2L (rowL (bytesOf s))) (dolB (behindL (bytesOf s))) (dolB (bytesOf s)) (strOfNums (cnL (numL (lettersOf (bytesOf s))))) = s
  · have hb := good_row h.1
    have e := row_of s _ _ hb.1 h.2
    have e2 := rowI_txt _ hb.1 hb.2
    rw [← e] at e2
    rw [e2]
  · by_cases h' : goodRefB (rowI (rowL (bytesOf s))) (numL (lettersOf (bytesOf s))) = true ∧ refTxt (rowI (rowL (bytesOf s))) (dolB (behindL (bytesOf s))) (dolB (bytesOf s)) (strOfNums (cnL (numL (lettersOf (bytesOf s))))) = s
    · have hb := good_row h'.1
      have e := row_of s _ _ hb.1 h'.2
      have e2 := l2_txt _ hb.1 hb.2
      rw [← e] at e2
      rw [e2]
    · unfold finV; rw [if_neg h, if_neg h']
theorem refTxt_le (r c : Int) (a b : Bool) (h : goodRefB r c = true) : (refTxt r a b (strOfNums (cnL c))).size ≤ 12 := by
  have hb := good_row h
  have z0 : (⟨#[]⟩ : ByteArray).size = 0 := rfl
  have z1 : (⟨#[36]⟩ : ByteArray).size = 1 := rfl
  have ht : (txt r).size ≤ 4 := by
    obtain ⟨u, rfl⟩ : ∃ u : Nat, r = u := ⟨r.toNat, by omega⟩
    rw [txt_size]
    by_cases a : u < 10
    · rw [Lib.nDigits_small a]; omega
    · rw [Lib.nDigits_big a]
      by_cases b : u / 10 < 10
      · rw [Lib.nDigits_small b]; omega
      · rw [Lib.nDigits_big b]
        by_cases c : u / 10 / 10 < 10
        · rw [Lib.nDigits_small c]; omega
        · rw [Lib.nDigits_big c, Lib.nDigits_small (by omega)]; omega
  have hc : (strOfNums (cnL c)).size ≤ 2 := by rw [strOfNums_size]; unfold cnL; (repeat' split) <;> simp
  unfold refTxt
  simp only [ByteArray.size_append]
  cases a <;> cases b <;> simp only [if_true, if_false, Bool.false_eq_true, z0, z1] <;> omega
theorem implReadRef_all (s : ByteArray) : impl_ReadRef.f (s.size + 60) s = some (finV s (l2L (rowL (bytesOf s)))) := by
  by_cases h : s.size ≤ 12
  · rw [implReadRef_is s h, fin_same]
  · unfold impl_ReadRef.f
    rw [if_pos (by omega)]
    unfold finV
    rw [if_neg (fun hh => h (by have := refTxt_le _ _ (dolB (behindL (bytesOf s))) (dolB (bytesOf s)) hh.1; rw [hh.2] at this; exact this))]
theorem FnExactReadRef : ∀ (a0 : ByteArray), a0.size ≤ maxLen → ∃ k, laws_FnExactReadRef.f k a0 = some true := by
  intro s _
  refine ⟨s.size + 60, ?_⟩
  unfold laws_FnExactReadRef.f
  by_cases h : (s.size : Int) > 1048576
  · rw [if_pos h]
  · rw [if_neg h, specReadRef_is s (by omega), implReadRef_all s]
    simp only [Option.bind_some]
    generalize finV s (l2L (rowL (bytesOf s))) = v
    unfold laws_eqRef.f
    simp

end Go.Proofs.YtjemnnndifeagaaDoor.Pure
