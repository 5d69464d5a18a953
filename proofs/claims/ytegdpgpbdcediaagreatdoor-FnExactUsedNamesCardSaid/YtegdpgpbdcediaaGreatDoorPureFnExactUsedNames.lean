/- The plain law of FnExactUsedNames: what the program computes is what the reference computes, for every input (no further condition). -/
import Derived.Test.YtegdpgpbdcediaaGreatDoorMFnExactUsedNamesa19
import Derived.Test.YtegdpgpbdcediaaGreatDoorRFnExactUsedNames
namespace Go.Proofs.YtegdpgpbdcediaaGreatDoor.Pure
open Go.RowKit Go.Proofs.YtegdpgpbdcediaaGreatDoor.PFnExactUsedNames Go.Proofs.YtegdpgpbdcediaaGreatDoorW.PrintWords Go.Proofs.YtegdpgpbdcediaaGreatDoorW.PrintLast

set_option linter.unusedVariables false
set_option linter.unusedSimpArgs false
/-! plain facts on texts as lists of numbers -/
theorem u8_back (b : UInt8) : UInt8.ofNat ((b.toNat : Int)).toNat = b := by simp
theorem strOfNums_bytesOf (s : ByteArray) : strOfNums (bytesOf s) = s := by
  cases s with | mk d =>
  unfold strOfNums bytesOf
  congr 1
  rw [List.map_map]
  have : ((fun n : Int => UInt8.ofNat n.toNat) ∘ fun b : UInt8 => (b.toNat : Int)) = id := by funext b; exact u8_back b
  rw [this, List.map_id]
def okL (xs : List Int) : Prop := ∀ x ∈ xs, 0 ≤ x ∧ x < 256
theorem bytesOf_strOfNums (xs : List Int) (h : okL xs) : bytesOf (strOfNums xs) = xs := by
  unfold bytesOf
  rw [strOfNums_data, List.map_map]
  conv => rhs; rw [← List.map_id xs]
  refine List.map_congr_left fun x hx => ?_
  have := h x hx
  simp only [Function.comp, UInt8.toNat_ofNat', id]
  omega
theorem okL_bytesOf (s : ByteArray) : okL (bytesOf s) := by
  intro x hx
  obtain ⟨b, _, rfl⟩ := List.mem_map.1 hx
  have := b.toNat_lt
  omega
theorem strOfNums_app (xs ys : List Int) : strOfNums xs ++ strOfNums ys = strOfNums (xs ++ ys) := by
  apply ByteArray.ext
  rw [ByteArray.data_append]
  simp [strOfNums]
theorem bytesOf_inj {s t : ByteArray} (h : bytesOf s = bytesOf t) : s = t := by
  rw [← strOfNums_bytesOf s, ← strOfNums_bytesOf t, h]
theorem toList_iff (s t : ByteArray) : s.toList = t.toList ↔ bytesOf s = bytesOf t := by
  rw [ByteArray.toList_eq, ByteArray.toList_eq]
  constructor
  · intro h; unfold bytesOf; rw [h]
  · intro h; rw [bytesOf_inj h]
theorem bt_of (s : ByteArray) (L : List Int) (h : bytesOf s = L) (i : Int) : bt s i = rd L i := by
  rw [← h, rd_bytesOf]
theorem size_of' (s : ByteArray) (L : List Int) (h : bytesOf s = L) : s.size = L.length := by
  rw [← h, bytesOf_length]

theorem colName_l0_same : ∀ (k : Nat) (x : Int) (s : ByteArray), spec_ColName.l0 k x s = impl_ColName.l0 k x s
  | 0, _, _ => rfl
  | k + 1, x, s => by
    simp only [spec_ColName.l0, impl_ColName.l0]
    split
    · simp only [Option.bind_some]
      split
      · exact colName_l0_same k _ _
      · rfl
    · rfl
theorem colName_same (k : Nat) (n : Int) : spec_ColName.f k n = impl_ColName.f k n := by
  unfold spec_ColName.f impl_ColName.f
  have j : ∀ b, spec_ColName.j0 k n b = impl_ColName.j0 k n b := by
    intro b
    cases k with
    | zero => rfl
    | succ k => simp only [spec_ColName.j0, impl_ColName.j0, colName_l0_same]
  rw [j, j]
theorem colName_l0_ends : ∀ (d k : Nat) (x : Int) (s : ByteArray), x ≤ d → d < k → s.size + d ≤ 1000000 → ∃ r, spec_ColName.l0 k x s = some r := by
  intro d
  induction d with
  | zero =>
    intro k x s hx hk hs
    obtain ⟨k, rfl⟩ : ∃ m, k = m + 1 := ⟨k - 1, by omega⟩
    exact ⟨s, by simp only [spec_ColName.l0]; rw [if_neg (by omega)]⟩
  | succ d ih =>
    intro k x s hx hk hs
    obtain ⟨k, rfl⟩ : ∃ m, k = m + 1 := ⟨k - 1, by omega⟩
    by_cases h : x > 0
    · have hz : ∀ c : Int, (strOfNums [c]).size = 1 := fun c => rfl
      simp only [spec_ColName.l0]
      rw [if_pos h]
      simp only [Option.bind_some]
      rw [if_pos (by rw [hz]; omega)]
      refine ih k _ _ ?_ (by omega) ?_
      · have : Int.tdiv (wrap64 (x - 1)) 26 ≤ d := by
          have w : wrap64 (x - 1) = x - 1 := wrap_id (by omega) (by omega)
          rw [w, td_pos (by omega)]; omega
        have h0 : 0 ≤ Int.tdiv (wrap64 (x - 1)) 26 := by
          have w : wrap64 (x - 1) = x - 1 := wrap_id (by omega) (by omega)
          rw [w, td_pos (by omega)]; omega
        rw [wrap_id (by omega) (by omega)]; exact this
      · rw [ByteArray.size_append, hz]; omega
    · exact ⟨s, by simp only [spec_ColName.l0]; rw [if_neg h]⟩
theorem colName_ends (n : Int) : ∃ r, spec_ColName.f 300 n = some r := by
  unfold spec_ColName.f
  by_cases h : n < 1
  · rw [if_pos h]; exact ⟨_, rfl⟩
  · rw [if_neg h]
    by_cases h2 : n > 200
    · exact ⟨(⟨#[]⟩ : ByteArray), by simp [spec_ColName.j0, h2]⟩
    · obtain ⟨r, hr⟩ := colName_l0_ends 200 299 n (⟨#[]⟩ : ByteArray) (by omega) (by omega) (by show 0 + 200 ≤ 1000000; omega)
      exact ⟨r, by
        have : decide (n > 200) = false := decide_eq_false h2
        rw [this]; show spec_ColName.j0 (299 + 1) n false = some r
        simp only [spec_ColName.j0]; rw [if_neg (by decide)]; exact hr⟩

/-- The name of a column, as a list of bytes. -/
def cnL (n : Int) : List Int := if n < 1 then [] else if n > 200 then [] else if n ≤ 26 then [64 + n] else [64 + (n - 1) / 26, 65 + (n - 1) % 26]
theorem cnL_ok (n : Int) : okL (cnL n) := by
  intro x hx
  unfold cnL at hx
  split at hx
  · cases hx
  · split at hx
    · cases hx
    · split at hx
      · simp at hx; omega
      · simp at hx; omega
theorem colName_step (k : Nat) (x : Int) (L : List Int) (h0 : 0 < x) (h1 : x ≤ 200) (hL : L.length ≤ 100) :
    spec_ColName.l0 (k + 1) x (strOfNums L) = spec_ColName.l0 k ((x - 1) / 26) (strOfNums ((65 + (x - 1) % 26) :: L)) := by
  simp only [spec_ColName.l0]
  rw [if_pos h0]
  simp only [Option.bind_some]
  have w : wrap64 (x - 1) = x - 1 := wrap_id (by omega) (by omega)
  rw [w, td_pos (by omega), tm_pos (by omega), wrap_id (x := 65 + (x - 1) % 26) (by omega) (by omega), wrap_id (by omega) (by omega), strOfNums_app, strOfNums_size, strOfNums_size]
  rw [if_pos (by simp; omega), show (65 + (x - 1) % 26) % 256 = 65 + (x - 1) % 26 from by omega]
  rfl
theorem colName_zero (k : Nat) (s : ByteArray) : spec_ColName.l0 (k + 1) 0 s = some s := by
  simp only [spec_ColName.l0]; rw [if_neg (by omega)]
theorem colName_is (k : Nat) (n : Int) : spec_ColName.f (k + 4) n = some (strOfNums (cnL n)) := by
  unfold spec_ColName.f cnL
  by_cases h : n < 1
  · rw [if_pos h, if_pos h]; rfl
  · rw [if_neg h, if_neg h]
    by_cases h2 : n > 200
    · rw [if_pos h2]; simp only [spec_ColName.j0]; rw [if_pos (decide_eq_true h2)]; rfl
    · rw [if_neg h2]
      simp only [spec_ColName.j0]; rw [if_neg (by simp; omega)]
      have e0 : (⟨#[]⟩ : ByteArray) = strOfNums [] := rfl
      rw [e0, colName_step _ _ _ (by omega) (by omega) (by simp)]
      by_cases h3 : n ≤ 26
      · rw [if_pos h3, show (n - 1) / 26 = 0 from by omega, colName_zero, show (n - 1) % 26 = n - 1 from by omega, show 65 + (n - 1) = 64 + n from by omega]
      · rw [if_neg h3, colName_step _ _ _ (by omega) (by omega) (by simp), show ((n - 1) / 26 - 1) / 26 = 0 from by omega, colName_zero, show ((n - 1) / 26 - 1) % 26 = (n - 1) / 26 - 1 from by omega, show 65 + ((n - 1) / 26 - 1) = 64 + (n - 1) / 26 from by omega]

theorem num_step (k : Nat) (s : ByteArray) (n i : Int) (h0 : 0 ≤ i) (h : i < s.size) (h4 : i < 4) (l : 65 ≤ bt s i) (u : bt s i ≤ 90) (n0 : 0 ≤ n) (n1 : n ≤ 1000000) :
    spec_ColNumber.l0 (k + 2) s n i = spec_ColNumber.l0 k s (n * 26 + (bt s i - 64)) (i + 1) := by
  simp only [spec_ColNumber.l0, spec_ColNumber.j1]
  rw [if_pos h, if_pos (decide_eq_true h4), if_pos h0, if_pos h, if_neg (by omega), if_neg (by omega)]
  rw [wrap_id (x := n * 26) (by omega) (by omega), show ((bt s i) - 65) % 256 = bt s i - 65 from by omega, wrap_id (x := n * 26 + (bt s i - 65)) (by omega) (by omega), wrap_id (x := n * 26 + (bt s i - 65) + 1) (by omega) (by omega), wrap_id (x := i + 1) (by omega) (by omega)]
  rw [show n * 26 + (bt s i - 65) + 1 = n * 26 + (bt s i - 64) from by omega]
theorem num_bad (k : Nat) (s : ByteArray) (n i : Int) (h0 : 0 ≤ i) (h : i < s.size) (h4 : i < 4) (l : bt s i < 65 ∨ 90 < bt s i) :
    spec_ColNumber.l0 (k + 2) s n i = some 0 := by
  simp only [spec_ColNumber.l0, spec_ColNumber.j1]
  rw [if_pos h, if_pos (decide_eq_true h4), if_pos h0, if_pos h]
  by_cases l1 : bt s i < 65
  · rw [if_pos l1]
  · rw [if_neg l1, if_pos (by omega)]
theorem num_end (k : Nat) (s : ByteArray) (n i : Int) (h : (s.size : Int) ≤ i ∨ 4 ≤ i) :
    spec_ColNumber.l0 (k + 6) s n i = if cnL n = bytesOf s then some n else some 0 := by
  have e : spec_ColNumber.j1 (k + 5) s n i false = if cnL n = bytesOf s then some n else some 0 := by
    simp only [spec_ColNumber.j1]
    rw [if_neg (by decide), colName_is]
    simp only [Option.bind_some]
    by_cases c : cnL n = bytesOf s
    · rw [if_pos c, if_pos ((toList_iff _ _).2 (by rw [bytesOf_strOfNums _ (cnL_ok n), c]))]
    · rw [if_neg c, if_neg (fun q => c (by rw [← bytesOf_strOfNums _ (cnL_ok n)]; exact (toList_iff _ _).1 q))]
  simp only [spec_ColNumber.l0]
  by_cases c : i < (s.size : Int)
  · rw [if_pos c, decide_eq_false (by omega : ¬ i < 4)]; exact e
  · rw [if_neg c]; exact e
theorem imp_step (k : Nat) (s : ByteArray) (n i : Int) (h0 : 0 ≤ i) (h : i < s.size) (hz : s.size ≤ 3) (l : 65 ≤ bt s i) (u : bt s i ≤ 90) (n0 : 0 ≤ n) (n1 : n ≤ 1000000) :
    impl_ColNumber.l0 (k + 1) s n i = impl_ColNumber.l0 k s (n * 26 + (bt s i - 64)) (i + 1) := by
  simp only [impl_ColNumber.l0]
  rw [if_pos h, if_pos h0, if_neg (by omega), if_neg (by omega)]
  rw [wrap_id (x := n * 26) (by omega) (by omega), show ((bt s i) - 65) % 256 = bt s i - 65 from by omega, wrap_id (x := n * 26 + (bt s i - 65)) (by omega) (by omega), wrap_id (x := n * 26 + (bt s i - 65) + 1) (by omega) (by omega), wrap_id (x := i + 1) (by omega) (by omega)]
  rw [show n * 26 + (bt s i - 65) + 1 = n * 26 + (bt s i - 64) from by omega]
theorem imp_bad (k : Nat) (s : ByteArray) (n i : Int) (h0 : 0 ≤ i) (h : i < s.size) (l : bt s i < 65 ∨ 90 < bt s i) :
    impl_ColNumber.l0 (k + 1) s n i = some 0 := by
  simp only [impl_ColNumber.l0]
  rw [if_pos h, if_pos h0]
  by_cases l1 : bt s i < 65
  · rw [if_pos l1]
  · rw [if_neg l1, if_pos (by omega)]
theorem imp_end (k : Nat) (s : ByteArray) (n i : Int) (h : (s.size : Int) ≤ i) :
    impl_ColNumber.l0 (k + 1) s n i = if n > 200 then some 0 else some n := by
  simp only [impl_ColNumber.l0]
  rw [if_neg (by omega)]
/-- What both tell: the number of a column's name. -/
def numL : List Int → Int
  | [a] => if 65 ≤ a ∧ a ≤ 90 then a - 64 else 0
  | [a, b] => if 65 ≤ a ∧ a ≤ 90 then (if 65 ≤ b ∧ b ≤ 90 then (if 26 * (a - 64) + (b - 64) > 200 then 0 else 26 * (a - 64) + (b - 64)) else 0) else 0
  | _ => 0
theorem rd0 (a : Int) (l : List Int) : rd (a :: l) 0 = a := rfl
theorem rd1 (a b : Int) (l : List Int) : rd (a :: b :: l) 1 = b := rfl
theorem rd2 (a b c : Int) (l : List Int) : rd (a :: b :: c :: l) 2 = c := rfl
theorem rd3 (a b c d : Int) (l : List Int) : rd (a :: b :: c :: d :: l) 3 = d := rfl
theorem specNumber_is (k : Nat) (s : ByteArray) : spec_ColNumber.f (k + 14) s = some (numL (bytesOf s)) := by
  unfold spec_ColNumber.f
  generalize hL : bytesOf s = L
  have hz := size_of' s L hL
  have b0 := bt_of s L hL 0
  have b1 := bt_of s L hL 1
  have b2 := bt_of s L hL 2
  have b3 := bt_of s L hL 3
  match L, hL, hz, b0, b1, b2, b3 with
  | [], hL, hz, b0, b1, b2, b3 =>
    rw [num_end (k + 8) s 0 0 (.inl (by rw [hz]; simp)), hL]
    rfl
  | [a], hL, hz, b0, b1, b2, b3 =>
    rw [rd0] at b0
    by_cases la : 65 ≤ a ∧ a ≤ 90
    · rw [num_step (k + 12) s 0 0 (by omega) (by rw [hz]; simp) (by omega) (by omega) (by omega) (by omega) (by omega), num_end (k + 6) s _ _ (.inl (by rw [hz]; simp)), hL, b0]
      have e : cnL (0 * 26 + (a - 64)) = [a] := by
        unfold cnL; rw [if_neg (by omega), if_neg (by omega), if_pos (by omega)]; congr 1; omega
      rw [if_pos e]; show some _ = some (if 65 ≤ a ∧ a ≤ 90 then a - 64 else 0); rw [if_pos la]; congr 1; omega
    · rw [num_bad (k + 12) s 0 0 (by omega) (by rw [hz]; simp) (by omega) (by omega)]
      show some _ = some (if 65 ≤ a ∧ a ≤ 90 then a - 64 else 0); rw [if_neg la]
  | [a, b], hL, hz, b0, b1, b2, b3 =>
    rw [rd0] at b0; rw [rd1] at b1
    show _ = some (if 65 ≤ a ∧ a ≤ 90 then (if 65 ≤ b ∧ b ≤ 90 then (if 26 * (a - 64) + (b - 64) > 200 then 0 else 26 * (a - 64) + (b - 64)) else 0) else 0)
    by_cases la : 65 ≤ a ∧ a ≤ 90
    · rw [num_step (k + 12) s 0 0 (by omega) (by rw [hz]; simp) (by omega) (by omega) (by omega) (by omega) (by omega), if_pos la, b0]
      by_cases lb : 65 ≤ b ∧ b ≤ 90
      · rw [num_step (k + 10) s _ (0 + 1) (by omega) (by rw [hz]; simp) (by omega) (by rw [show (0 : Int) + 1 = 1 from rfl]; omega) (by rw [show (0 : Int) + 1 = 1 from rfl]; omega) (by omega) (by omega), num_end (k + 4) s _ _ (.inl (by rw [hz]; simp)), hL, if_pos lb, show (0 : Int) + 1 = 1 from rfl, b1]
        by_cases g : 26 * (a - 64) + (b - 64) > 200
        · rw [if_pos g, if_neg]
          unfold cnL; rw [if_neg (by omega), if_pos (by omega)]; simp
        · have e : cnL ((0 * 26 + (a - 64)) * 26 + (b - 64)) = [a, b] := by
            unfold cnL; rw [if_neg (by omega), if_neg (by omega), if_neg (by omega)]; congr 1
            · omega
            · congr 1; omega
          rw [if_neg g, if_pos e]; congr 1; omega
      · rw [num_bad (k + 10) s _ (0 + 1) (by omega) (by rw [hz]; simp) (by omega) (by rw [show (0 : Int) + 1 = 1 from rfl]; omega), if_neg lb]
    · rw [num_bad (k + 12) s 0 0 (by omega) (by rw [hz]; simp) (by omega) (by omega), if_neg la]
  | a :: b :: c :: l, hL, hz, b0, b1, b2, b3 =>
    rw [rd0] at b0; rw [rd1] at b1; rw [rd2] at b2
    show _ = some 0
    simp only [List.length_cons] at hz
    by_cases la : 65 ≤ a ∧ a ≤ 90
    · rw [num_step (k + 12) s 0 0 (by omega) (by omega) (by omega) (by omega) (by omega) (by omega) (by omega), b0]
      by_cases lb : 65 ≤ b ∧ b ≤ 90
      · rw [show (0 : Int) + 1 = 1 from rfl, num_step (k + 10) s _ 1 (by omega) (by omega) (by omega) (by omega) (by omega) (by omega) (by omega), b1]
        by_cases lc : 65 ≤ c ∧ c ≤ 90
        · rw [show (1 : Int) + 1 = 2 from rfl, num_step (k + 8) s _ 2 (by omega) (by omega) (by omega) (by omega) (by omega) (by omega) (by omega), b2]
          rw [show (2 : Int) + 1 = 3 from rfl]
          have far : ∀ m : Int, 703 ≤ m → cnL m ≠ bytesOf s := by
            intro m hm; rw [hL]; unfold cnL; rw [if_neg (by omega), if_pos (by omega)]; simp
          by_cases h4 : l.length = 0
          · rw [num_end (k + 2) s _ 3 (.inl (by omega)), if_neg (far _ (by omega))]
          · by_cases ld : 65 ≤ bt s 3 ∧ bt s 3 ≤ 90
            · rw [num_step (k + 6) s _ 3 (by omega) (by omega) (by omega) (by omega) (by omega) (by omega) (by omega), num_end k s _ (3 + 1) (.inr (by omega)), if_neg (far _ (by omega))]
            · rw [num_bad (k + 6) s _ 3 (by omega) (by omega) (by omega) (by omega)]
        · rw [show (1 : Int) + 1 = 2 from rfl, num_bad (k + 8) s _ 2 (by omega) (by omega) (by omega) (by omega)]
      · rw [show (0 : Int) + 1 = 1 from rfl, num_bad (k + 10) s _ 1 (by omega) (by omega) (by omega) (by omega)]
    · rw [num_bad (k + 12) s 0 0 (by omega) (by omega) (by omega) (by omega)]
theorem implNumber_is (k : Nat) (s : ByteArray) : impl_ColNumber.f (k + 5) s = some (numL (bytesOf s)) := by
  unfold impl_ColNumber.f
  generalize hL : bytesOf s = L
  have hz := size_of' s L hL
  have b0 := bt_of s L hL 0
  have b1 := bt_of s L hL 1
  have b2 := bt_of s L hL 2
  match L, hL, hz, b0, b1, b2 with
  | [], hL, hz, b0, b1, b2 =>
    rw [if_pos (by rw [hz]; simp)]; rfl
  | [a], hL, hz, b0, b1, b2 =>
    rw [rd0] at b0
    simp only [List.length_cons, List.length_nil] at hz
    rw [if_neg (by omega), decide_eq_false (by omega)]
    simp only [impl_ColNumber.j0]; rw [if_neg (by decide)]
    show _ = some (if 65 ≤ a ∧ a ≤ 90 then a - 64 else 0)
    by_cases la : 65 ≤ a ∧ a ≤ 90
    · rw [imp_step (k + 3) s 0 0 (by omega) (by omega) (by omega) (by omega) (by omega) (by omega) (by omega), imp_end _ _ _ _ (by omega), if_neg (by omega), if_pos la]; congr 1; omega
    · rw [imp_bad (k + 3) s 0 0 (by omega) (by omega) (by omega), if_neg la]
  | [a, b], hL, hz, b0, b1, b2 =>
    rw [rd0] at b0; rw [rd1] at b1
    simp only [List.length_cons, List.length_nil] at hz
    rw [if_neg (by omega), decide_eq_false (by omega)]
    simp only [impl_ColNumber.j0]; rw [if_neg (by decide)]
    show _ = some (if 65 ≤ a ∧ a ≤ 90 then (if 65 ≤ b ∧ b ≤ 90 then (if 26 * (a - 64) + (b - 64) > 200 then 0 else 26 * (a - 64) + (b - 64)) else 0) else 0)
    by_cases la : 65 ≤ a ∧ a ≤ 90
    · rw [imp_step (k + 3) s 0 0 (by omega) (by omega) (by omega) (by omega) (by omega) (by omega) (by omega), if_pos la, show (0 : Int) + 1 = 1 from rfl]
      by_cases lb : 65 ≤ b ∧ b ≤ 90
      · rw [imp_step (k + 2) s _ 1 (by omega) (by omega) (by omega) (by omega) (by omega) (by omega) (by omega), imp_end _ _ _ _ (by omega), if_pos lb, b0, b1]
        by_cases g : 26 * (a - 64) + (b - 64) > 200
        · rw [if_pos g, if_pos (by omega)]
        · rw [if_neg g, if_neg (by omega)]; congr 1; omega
      · rw [imp_bad (k + 2) s _ 1 (by omega) (by omega) (by omega), if_neg lb]
    · rw [imp_bad (k + 3) s 0 0 (by omega) (by omega) (by omega), if_neg la]
  | a :: b :: c :: l, hL, hz, b0, b1, b2 =>
    rw [rd0] at b0; rw [rd1] at b1; rw [rd2] at b2
    simp only [List.length_cons] at hz
    show _ = some 0
    rw [if_neg (by omega)]
    by_cases h4 : (s.size : Int) > 3
    · rw [decide_eq_true h4]; rfl
    rw [decide_eq_false h4]
    simp only [impl_ColNumber.j0]; rw [if_neg (by decide)]
    by_cases la : 65 ≤ a ∧ a ≤ 90
    · rw [imp_step (k + 3) s 0 0 (by omega) (by omega) (by omega) (by omega) (by omega) (by omega) (by omega), show (0 : Int) + 1 = 1 from rfl]
      by_cases lb : 65 ≤ b ∧ b ≤ 90
      · rw [imp_step (k + 2) s _ 1 (by omega) (by omega) (by omega) (by omega) (by omega) (by omega) (by omega), show (1 : Int) + 1 = 2 from rfl]
        by_cases lc : 65 ≤ c ∧ c ≤ 90
        · rw [imp_step (k + 1) s _ 2 (by omega) (by omega) (by omega) (by omega) (by omega) (by omega) (by omega), imp_end _ _ _ _ (by omega), if_pos (by omega)]
        · rw [imp_bad (k + 1) s _ 2 (by omega) (by omega) (by omega)]
      · rw [imp_bad (k + 2) s _ 1 (by omega) (by omega) (by omega)]
    · rw [imp_bad (k + 3) s 0 0 (by omega) (by omega) (by omega)]

theorem colName_l0_sz : ∀ (d : Nat) (x : Int) (s : ByteArray), x ≤ d → s.size + d ≤ 1000000 → ∃ r, (∀ k, d < k → spec_ColName.l0 k x s = some r) ∧ r.size ≤ s.size + d := by
  intro d
  induction d with
  | zero =>
    intro x s hx hs
    refine ⟨s, fun k hk => ?_, by omega⟩
    obtain ⟨k, rfl⟩ : ∃ m, k = m + 1 := ⟨k - 1, by omega⟩
    simp only [spec_ColName.l0]; rw [if_neg (by omega)]
  | succ d ih =>
    intro x s hx hs
    by_cases h : x > 0
    · have hz : ∀ c : Int, (strOfNums [c]).size = 1 := fun c => rfl
      obtain ⟨r, h1, h2⟩ := ih (wrap64 (Int.tdiv (wrap64 (x - 1)) 26)) (strOfNums [(wrap64 (65 + (Int.tmod (wrap64 (x - 1)) 26))) % 256] ++ s) (by
        have : Int.tdiv (wrap64 (x - 1)) 26 ≤ d := by
          have w : wrap64 (x - 1) = x - 1 := wrap_id (by omega) (by omega)
          rw [w, td_pos (by omega)]; omega
        have h0 : 0 ≤ Int.tdiv (wrap64 (x - 1)) 26 := by
          have w : wrap64 (x - 1) = x - 1 := wrap_id (by omega) (by omega)
          rw [w, td_pos (by omega)]; omega
        rw [wrap_id (by omega) (by omega)]; exact this) (by rw [ByteArray.size_append, hz]; omega)
      refine ⟨r, fun k hk => ?_, by rw [ByteArray.size_append, hz] at h2; omega⟩
      obtain ⟨k, rfl⟩ : ∃ m, k = m + 1 := ⟨k - 1, by omega⟩
      simp only [spec_ColName.l0]
      rw [if_pos h]
      simp only [Option.bind_some]
      rw [if_pos (by rw [hz]; omega)]
      exact h1 k (by omega)
    · refine ⟨s, fun k hk => ?_, by omega⟩
      obtain ⟨k, rfl⟩ : ∃ m, k = m + 1 := ⟨k - 1, by omega⟩
      simp only [spec_ColName.l0]; rw [if_neg h]
theorem colName_sz (n : Int) : ∃ r, (∀ k, 300 ≤ k → spec_ColName.f k n = some r) ∧ r.size ≤ 1000 := by
  by_cases h : n < 1
  · refine ⟨⟨#[]⟩, fun k hk => ?_, by show 0 ≤ 1000; omega⟩
    obtain ⟨k, rfl⟩ : ∃ m, k = m + 1 := ⟨k - 1, by omega⟩
    unfold spec_ColName.f; rw [if_pos h]; simp [spec_ColName.j0]
  · by_cases h2 : n > 200
    · refine ⟨⟨#[]⟩, fun k hk => ?_, by show 0 ≤ 1000; omega⟩
      obtain ⟨k, rfl⟩ : ∃ m, k = m + 1 := ⟨k - 1, by omega⟩
      unfold spec_ColName.f; rw [if_neg h]; simp [spec_ColName.j0, h2]
    · obtain ⟨r, hr, hs⟩ := colName_l0_sz 200 n (⟨#[]⟩ : ByteArray) (by omega) (by show 0 + 200 ≤ 1000000; omega)
      refine ⟨r, fun k hk => ?_, by have : (⟨#[]⟩ : ByteArray).size = 0 := rfl; omega⟩
      obtain ⟨k, rfl⟩ : ∃ m, k = m + 1 := ⟨k - 1, by omega⟩
      unfold spec_ColName.f; rw [if_neg h]
      have : decide (n > 200) = false := decide_eq_false h2
      rw [this]
      simp only [spec_ColName.j0]; rw [if_neg (by decide)]; exact hr k (by omega)

theorem txt_le (n : Int) (h1 : -1000000000000000000 < n) (h2 : n < 1000000000000000000) : (txt n).size ≤ 21 := by
  have := Lib.itoa_length_le n (by omega) (by omega)
  show (Lib.itoa n).toArray.size ≤ 21
  simpa using this

theorem txt_neg (d : Int) (h : d < 0) : txt d = (⟨#[45]⟩ : ByteArray) ++ txt (-d) := by
  have e1 : Lib.itoa d = 45 :: Lib.decDigits d.natAbs := by unfold Lib.itoa; rw [if_pos h]
  have e2 : Lib.itoa (-d) = Lib.decDigits d.natAbs := by unfold Lib.itoa; rw [if_neg (by omega)]; congr 1; omega
  apply ByteArray.ext
  show (Lib.itoa d).toArray = _
  rw [e1, ByteArray.data_append]
  show _ = #[45] ++ (Lib.itoa (-d)).toArray
  rw [e2]; simp
theorem txt_size (u : Nat) : (txt (u : Int)).size = Lib.nDigits u := by
  have e : Lib.itoa (u : Int) = Lib.decDigits u := by unfold Lib.itoa; rw [if_neg (by omega)]; simp
  show (Lib.itoa (u : Int)).toArray.size = _
  rw [e]; simp [Lib.decDigits_length]
theorem txt_pos (n : Int) (h1 : -1000000000000000000 < n) (h2 : n < 1000000000000000000) : 1 ≤ (txt n).size := by
  rcases Int.lt_or_le n 0 with h | h
  · rw [txt_neg n h, ByteArray.size_append]; show 1 ≤ 1 + _; omega
  · obtain ⟨u, rfl⟩ : ∃ u : Nat, n = u := ⟨n.toNat, by omega⟩
    rw [txt_size]; exact Lib.nDigits_pos u
theorem ba_assoc (a b c : ByteArray) : a ++ b ++ c = a ++ (b ++ c) := ByteArray.append_assoc
theorem ba_ext {a b : ByteArray} (h : a.data.toList = b.data.toList) : a = b := ByteArray.ext (Array.toList_inj.1 h)

/-- A reference's text, its column's name known. -/
def refTxt (r : Int) (a b : Bool) (n : ByteArray) : ByteArray := (((if b then (⟨#[36]⟩ : ByteArray) else ⟨#[]⟩) ++ n ++ (if a then (⟨#[36]⟩ : ByteArray) else ⟨#[]⟩)) ++ txt r)
theorem specRefText_is (k : Nat) (r c : Int) (a b : Bool) (h : goodRefB r c = true) (n : ByteArray) (hn : spec_ColName.f k c = some n) (hs : n.size ≤ 1000) : spec_RefText.f k r c a b = some (refTxt r a b n) := by
  have hb : 1 ≤ r ∧ r ≤ 1000 := by unfold goodRefB at h; have := of_decide_eq_true h; omega
  have ht := txt_le r (by omega) (by omega)
  have z0 : (⟨#[]⟩ : ByteArray).size = 0 := rfl
  have z1 : (⟨#[36]⟩ : ByteArray).size = 1 := rfl
  unfold spec_RefText.f spec_l3Fix.f refTxt
  rw [specGoodRef_is, h, hn, l1Num_is r (by omega) (by omega)]
  cases a <;> cases b <;> simp only [Option.bind_some, if_true, if_false, Bool.false_eq_true, ByteArray.size_append, z0, z1] <;> rw [if_pos (by omega), if_pos (by omega), if_pos (by omega)]
theorem implRefText_is (k : Nat) (r c : Int) (a b : Bool) (h : goodRefB r c = true) (n : ByteArray) (hn : impl_ColName.f k c = some n) (hs : n.size ≤ 1000) : impl_RefText.f (k + 1) r c a b = some (refTxt r a b n) := by
  have hb : 1 ≤ r ∧ r ≤ 1000 := by unfold goodRefB at h; have := of_decide_eq_true h; omega
  have ht := txt_le r (by omega) (by omega)
  have z0 : (⟨#[]⟩ : ByteArray).size = 0 := rfl
  have z1 : (⟨#[36]⟩ : ByteArray).size = 1 := rfl
  have z2 : ∀ x : ByteArray, x ++ (⟨#[]⟩ : ByteArray) = x := fun x => ByteArray.append_empty
  unfold impl_RefText.f refTxt
  rw [implGoodRef_is, h]
  simp only [Option.bind_some, if_true, impl_RefText.j0, hn, itoa_is r (by omega) (by omega)]
  cases a <;> cases b <;> simp only [Option.bind_some, if_true, if_false, Bool.false_eq_true, ByteArray.size_append, z0, z1, z2] <;> (first | (rw [if_pos (by omega), if_pos (by omega), if_pos (by omega)]) | (rw [if_pos (by omega), if_pos (by omega)]))

/-! Reading a reference: both parse alike but for the row's number, and both hold what they read against its text. -/
def isL (x : Int) : Bool := decide (65 ≤ x ∧ x ≤ 90)
def dolB (L : List Int) : Bool := match L with | x :: _ => decide (x = 36) | [] => false
def cutD (L : List Int) : List Int := if dolB L then L.tail else L
def dolL (b : Bool) : List Int := if b then [36] else []
theorem dol_split (L : List Int) : L = dolL (dolB L) ++ cutD L := by
  unfold cutD dolL
  cases L with
  | nil => rfl
  | cons x l =>
    by_cases h : x = 36
    · subst h; simp [dolB]
    · simp [dolB, h]
theorem tw_le (L : List Int) : (L.takeWhile isL).length ≤ L.length := (List.takeWhile_sublist isL).length_le
/-- The digits' number; -1 where there are others, or none, or more than six. -/
def l2go (acc : Int) : List Int → Int
  | [] => acc
  | d :: r => if 48 ≤ d ∧ d ≤ 57 then l2go (acc * 10 + (d - 48)) r else -1
def l2L (L : List Int) : Int := if L.length < 1 then -1 else if L.length > 6 then -1 else l2go 0 L
def p10 : Nat → Int
  | 0 => 1
  | n + 1 => p10 n * 10
theorem p10_le : ∀ i : Nat, i ≤ 6 → 1 ≤ p10 i ∧ p10 i ≤ 1000000 := by
  intro i h
  rcases (by omega : i = 0 ∨ i = 1 ∨ i = 2 ∨ i = 3 ∨ i = 4 ∨ i = 5 ∨ i = 6) with rfl | rfl | rfl | rfl | rfl | rfl | rfl <;> decide
theorem at_bt (s : ByteArray) (i : Nat) (h : i < (bytesOf s).length) : (bytesOf s)[i] = bt s (i : Int) := by
  have := rd_bytesOf s (i : Int)
  unfold rd at this
  rw [Int.toNat_natCast, List.getD_eq_getElem?_getD, List.getElem?_eq_getElem h] at this
  exact this
theorem l2_l0 (s : ByteArray) : ∀ (n k i : Nat) (acc : Int), i + n = s.size → i + n ≤ 6 → 0 ≤ acc → acc < p10 i → spec_l2Number.l0 (k + n + 1) s acc (i : Int) = some (l2go acc ((bytesOf s).drop i)) := by
  intro n
  induction n with
  | zero =>
    intro k i acc hi h6 h0 h1
    simp only [spec_l2Number.l0]
    rw [if_neg (by omega), List.drop_eq_nil_of_le (by rw [bytesOf_length]; omega)]
    rfl
  | succ n ih =>
    intro k i acc hi h6 h0 h1
    have hlt : i < (bytesOf s).length := by rw [bytesOf_length]; omega
    have hb := at_bt s i hlt
    have hr := bt_range s (i : Int)
    have hp := p10_le i (by omega)
    have ih' := ih k (i + 1)
    obtain ⟨m, hm⟩ : ∃ m, m = k + n + 1 := ⟨_, rfl⟩
    rw [show k + (n + 1) + 1 = m + 1 from by omega]
    rw [← hm] at ih'
    simp only [spec_l2Number.l0, spec_l1Digit.f]
    rw [if_pos (by omega), if_pos (by omega), List.drop_eq_getElem_cons hlt, hb]
    show _ = some (if 48 ≤ bt s (i : Int) ∧ bt s (i : Int) ≤ 57 then l2go (acc * 10 + (bt s (i : Int) - 48)) ((bytesOf s).drop (i + 1)) else -1)
    by_cases a : bt s (i : Int) ≥ 48
    · rw [if_pos a]
      simp only [Option.bind_some]
      by_cases b : bt s (i : Int) ≤ 57
      · rw [if_pos (by simp [b]), if_pos ⟨a, b⟩, wrap_id (x := acc * 10) (by omega) (by omega), show (bt s (i : Int) - 48) % 256 = bt s (i : Int) - 48 from by omega, wrap_id (by omega) (by omega), wrap_id (by omega) (by omega), show (i : Int) + 1 = ((i + 1 : Nat) : Int) from by omega]
        exact ih' _ (by omega) (by omega) (by omega) (by show _ < p10 i * 10; omega)
      · rw [if_neg (by simp [b]), if_neg (by omega)]
    · rw [if_neg a, if_neg (by omega)]; rfl
theorem l2_is (k : Nat) (s : ByteArray) : spec_l2Number.f (k + 10) s = some (l2L (bytesOf s)) := by
  have hz := bytesOf_length s
  unfold spec_l2Number.f l2L
  by_cases h1 : s.size < 1
  · rw [if_pos (by omega), if_pos (by omega)]; simp [spec_l2Number.j0]
  · rw [if_neg (by omega), if_neg (by omega)]
    by_cases h2 : s.size > 6
    · rw [decide_eq_true (by omega), if_pos (by omega)]; simp [spec_l2Number.j0]
    · rw [decide_eq_false (by omega), if_neg (by omega)]
      simp only [spec_l2Number.j0]
      rw [if_neg (by decide)]
      have := l2_l0 s s.size (k + 8 - s.size) 0 0 (by omega) (by omega) (by omega) (by decide)
      rw [show k + 8 - s.size + s.size + 1 = k + 9 from by omega] at this
      simpa using this
/-! the loops over the letters -/
theorem tw_at : ∀ (L : List Int) (q : Nat), q < (L.takeWhile isL).length → ∃ h' : q < L.length, isL (L[q]'h') = true
  | [], q, h => by simp at h
  | x :: l, q, h => by
    by_cases hx : isL x = true
    · rw [List.takeWhile_cons_of_pos hx] at h
      cases q with
      | zero => exact ⟨by simp, hx⟩
      | succ q =>
        obtain ⟨h', e⟩ := tw_at l q (by simpa using h)
        exact ⟨by simpa using h', by simpa using e⟩
    · rw [List.takeWhile_cons_of_neg hx] at h; simp at h
theorem tw_end (L : List Int) (h : (L.takeWhile isL).length < L.length) : isL (L[(L.takeWhile isL).length]'h) = false := by
  induction L with
  | nil => simp at h
  | cons x l ih =>
    by_cases hx : isL x = true
    · have e : ((x :: l).takeWhile isL).length = (l.takeWhile isL).length + 1 := by rw [List.takeWhile_cons_of_pos hx]; rfl
      have h2 : (l.takeWhile isL).length < l.length := by rw [e] at h; simpa using h
      have := ih h2
      simpa [e] using this
    · have e : ((x :: l).takeWhile isL).length = 0 := by rw [List.takeWhile_cons_of_neg hx]; rfl
      simpa [e] using hx
theorem spec_l0 (s : ByteArray) (r c : Int) (p q : Bool) (fr : Int) : ∀ (n k i : Nat), (∀ z, z < n → ∃ h : i + z < (bytesOf s).length, isL ((bytesOf s)[i + z]'h) = true) → (∀ h : i + n < (bytesOf s).length, isL ((bytesOf s)[i + n]'h) = false) → s.size ≤ 1048576 → i + n ≤ s.size →
    spec_ReadRef.l0 (k + n + 1) s (i : Int) fr r c p q = spec_ReadRef.j3 k s ((i + n : Nat) : Int) fr r c p q := by
  intro n
  induction n with
  | zero =>
    intro k i _ h2 hs hi
    have h2' := h2
    simp only [spec_ReadRef.l0, Nat.add_zero]
    by_cases h : i < s.size
    · have hl : i < (bytesOf s).length := by rw [bytesOf_length]; exact h
      have hb := at_bt s i hl
      have hn := h2' hl
      simp only [Nat.add_zero] at hn
      rw [hb] at hn
      unfold isL at hn
      have hn' := of_decide_eq_false hn
      rw [if_pos (by omega), if_pos (by omega)]
      by_cases a : bt s (i : Int) ≥ 65
      · rw [if_pos a, if_neg (by omega)]
      · rw [if_neg a]
    · rw [if_neg (by omega)]
  | succ n ih =>
    intro k i h1 h2 hs hi
    obtain ⟨hl, hn⟩ := h1 0 (by omega)
    simp only [Nat.add_zero] at hl hn
    rw [at_bt s i hl] at hn
    unfold isL at hn
    have hn' := of_decide_eq_true hn
    rw [bytesOf_length] at hl
    have ih' := ih k (i + 1) (fun z hz => by
      obtain ⟨h, e⟩ := h1 (z + 1) (by omega)
      exact ⟨by omega, by have e2 : i + 1 + z = i + (z + 1) := by omega
                          simp only [e2]; exact e⟩) (fun h => by
      have e2 : i + 1 + n = i + (n + 1) := by omega
      simp only [e2] at h ⊢; exact h2 h) hs (by omega)
    obtain ⟨m, hm⟩ : ∃ m, m = k + n + 1 := ⟨_, rfl⟩
    rw [show k + (n + 1) + 1 = m + 1 from by omega]
    rw [← hm] at ih'
    simp only [spec_ReadRef.l0]
    rw [if_pos (by omega), if_pos (by omega), if_pos (by omega), if_pos (by omega), wrap_id (by omega) (by omega), show (i : Int) + 1 = ((i + 1 : Nat) : Int) from by omega, ih']
    congr 1; omega
theorem impl_l0 (x s : ByteArray) (r c : Int) (p q : Bool) : ∀ (n k i : Nat), (∀ z, z < n → ∃ h : i + z < (bytesOf s).length, isL ((bytesOf s)[i + z]'h) = true) → (∀ h : i + n < (bytesOf s).length, isL ((bytesOf s)[i + n]'h) = false) → s.size ≤ 1048576 → i + n ≤ s.size →
    impl_ReadRef.l0 (k + n + 1) x s (i : Int) r c p q = impl_ReadRef.j2 k x s ((i + n : Nat) : Int) r c p q := by
  intro n
  induction n with
  | zero =>
    intro k i _ h2 hs hi
    have h2' := h2
    simp only [impl_ReadRef.l0, Nat.add_zero]
    by_cases h : i < s.size
    · have hl : i < (bytesOf s).length := by rw [bytesOf_length]; exact h
      have hb := at_bt s i hl
      have hn := h2' hl
      simp only [Nat.add_zero] at hn
      rw [hb] at hn
      unfold isL at hn
      have hn' := of_decide_eq_false hn
      rw [if_pos (by omega), if_pos (by omega)]
      by_cases a : bt s (i : Int) ≥ 65
      · rw [if_pos a, if_neg (by omega)]
      · rw [if_neg a]
    · rw [if_neg (by omega)]
  | succ n ih =>
    intro k i h1 h2 hs hi
    obtain ⟨hl, hn⟩ := h1 0 (by omega)
    simp only [Nat.add_zero] at hl hn
    rw [at_bt s i hl] at hn
    unfold isL at hn
    have hn' := of_decide_eq_true hn
    rw [bytesOf_length] at hl
    have ih' := ih k (i + 1) (fun z hz => by
      obtain ⟨h, e⟩ := h1 (z + 1) (by omega)
      exact ⟨by omega, by have e2 : i + 1 + z = i + (z + 1) := by omega
                          simp only [e2]; exact e⟩) (fun h => by
      have e2 : i + 1 + n = i + (n + 1) := by omega
      simp only [e2] at h ⊢; exact h2 h) hs (by omega)
    obtain ⟨m, hm⟩ : ∃ m, m = k + n + 1 := ⟨_, rfl⟩
    rw [show k + (n + 1) + 1 = m + 1 from by omega]
    rw [← hm] at ih'
    simp only [impl_ReadRef.l0]
    rw [if_pos (by omega), if_pos (by omega), if_pos (by omega), if_pos (by omega), wrap_id (by omega) (by omega), show (i : Int) + 1 = ((i + 1 : Nat) : Int) from by omega, ih']
    congr 1; omega
/-! what they read, in words of lists -/
theorem bytes_ext (s : ByteArray) (i j : Nat) : bytesOf (s.extract i j) = ((bytesOf s).drop i).take (j - i) := by
  unfold bytesOf
  rw [ByteArray.data_extract, Array.toList_extract, List.extract, List.map_take, List.map_drop]
def lettersOf (L : List Int) : List Int := (cutD L).takeWhile isL
def behindL (L : List Int) : List Int := (cutD L).drop (lettersOf L).length
def rowL (L : List Int) : List Int := cutD (behindL L)
/-- What is told of a row's number read. -/
def finV (s : ByteArray) (row : Int) : Int × Int × Bool × Bool × Bool :=
  if goodRefB row (numL (lettersOf (bytesOf s))) = true ∧ refTxt row (dolB (behindL (bytesOf s))) (dolB (bytesOf s)) (strOfNums (cnL (numL (lettersOf (bytesOf s))))) = s then (row, numL (lettersOf (bytesOf s)), dolB (behindL (bytesOf s)), dolB (bytesOf s), true) else (0, 0, false, false, false)
theorem refTxt_eq (row : Int) (a b : Bool) (n s : ByteArray) : ((refTxt row a b n).toList = s.toList) ↔ refTxt row a b n = s := by
  rw [toList_iff]; exact ⟨bytesOf_inj, fun h => by rw [h]⟩
theorem cn_le (c : Int) : (strOfNums (cnL c)).size ≤ 1000 := by
  rw [strOfNums_size]; unfold cnL; (repeat' split) <;> simp
theorem specJ5 (k : Nat) (s : ByteArray) (i c : Int) (j0 : Int) (a b : Bool) (R : List Int) (hi : 0 ≤ i) (hi2 : i ≤ s.size) (hR : (bytesOf s).drop i.toNat = R) :
    spec_ReadRef.j5 (k + 11) s i j0 c a b = some (if goodRefB (l2L R) c = true ∧ refTxt (l2L R) a b (strOfNums (cnL c)) = s then (l2L R, c, a, b, true) else (0, 0, false, false, false)) := by
  have hb : bytesOf (s.extract i.toNat s.size) = R := by
    rw [bytes_ext, ← hR]; exact List.take_of_length_le (by rw [List.length_drop, bytesOf_length]; omega)
  simp only [spec_ReadRef.j5]
  rw [if_pos hi, if_pos hi2, l2_is k, hb]
  simp only [Option.bind_some, specGoodRef_is]
  by_cases g : goodRefB (l2L R) c = true
  · rw [if_pos g, specRefText_is (k + 10) (l2L R) c a b g _ (colName_is (k + 6) c) (cn_le c)]
    simp only [Option.bind_some, refTxt_eq]
    by_cases e : refTxt (l2L R) a b (strOfNums (cnL c)) = s
    · rw [if_pos e, if_pos ⟨g, e⟩]
    · rw [if_neg e, if_neg (fun h => e h.2)]
  · rw [if_neg g, if_neg (fun h => g h.1)]
theorem dol_at (s : ByteArray) (i : Nat) (h : i < s.size) : dolB ((bytesOf s).drop i) = (bt s (i : Int) == 36) := by
  have hl : i < (bytesOf s).length := by rw [bytesOf_length]; exact h
  rw [List.drop_eq_getElem_cons hl, at_bt s i hl]
  unfold dolB
  by_cases e : bt s (i : Int) = 36
  · simp [e]
  · simp [e]
theorem dol_end (s : ByteArray) (i : Nat) (h : s.size ≤ i) : dolB ((bytesOf s).drop i) = false := by
  rw [List.drop_eq_nil_of_le (by rw [bytesOf_length]; exact h)]; rfl
theorem cut_drop (L : List Int) : cutD L = L.drop (if dolB L then 1 else 0) := by
  unfold cutD; split <;> simp
theorem cut_at (s : ByteArray) (i : Nat) : cutD ((bytesOf s).drop i) = (bytesOf s).drop (i + if dolB ((bytesOf s).drop i) then 1 else 0) := by
  rw [cut_drop, List.drop_drop]
theorem dol_lt (s : ByteArray) (i : Nat) (h : dolB ((bytesOf s).drop i) = true) : i < s.size := by
  rcases Nat.lt_or_ge i s.size with h' | h'
  · exact h'
  · rw [dol_end s i h'] at h; cases h
theorem specJ3 (k : Nat) (s : ByteArray) (i fr : Nat) (j0 c0 : Int) (b : Bool) (h1 : fr ≤ i) (h2 : i ≤ s.size) (hs : s.size ≤ 1048576) :
    spec_ReadRef.j3 (k + 15) s (i : Int) (fr : Int) j0 c0 false b =
      some (if goodRefB (l2L (cutD ((bytesOf s).drop i))) (numL (((bytesOf s).drop fr).take (i - fr))) = true ∧ refTxt (l2L (cutD ((bytesOf s).drop i))) (dolB ((bytesOf s).drop i)) b (strOfNums (cnL (numL (((bytesOf s).drop fr).take (i - fr))))) = s then (l2L (cutD ((bytesOf s).drop i)), numL (((bytesOf s).drop fr).take (i - fr)), dolB ((bytesOf s).drop i), b, true) else (0, 0, false, false, false)) := by
  simp only [spec_ReadRef.j3]
  rw [if_pos (by omega), if_pos (by omega), if_pos (by omega), specNumber_is k, bytes_ext, Int.toNat_natCast, Int.toNat_natCast]
  simp only [Option.bind_some]
  by_cases h : i < s.size
  · rw [if_pos (by omega), if_pos (by omega), ← dol_at s i h]
    simp only [spec_ReadRef.j4]
    by_cases d : dolB ((bytesOf s).drop i) = true
    · rw [if_pos d, wrap_id (by omega) (by omega), specJ5 (k + 2) s _ _ j0 true b (cutD ((bytesOf s).drop i)) (by omega) (by omega) (by rw [cut_at, d]; congr 1), d]
    · rw [if_neg d, specJ5 (k + 2) s _ _ j0 false b (cutD ((bytesOf s).drop i)) (by omega) (by omega) (by rw [cut_at, if_neg d]; rw [Int.toNat_natCast]; rfl)]
      rw [show dolB ((bytesOf s).drop i) = false from by simpa using d]
  · rw [if_neg (by omega)]
    have d := dol_end s i (by omega)
    simp only [spec_ReadRef.j4]
    rw [if_neg (by decide), specJ5 (k + 2) s _ _ j0 false b (cutD ((bytesOf s).drop i)) (by omega) (by omega) (by rw [cut_at, d]; rw [Int.toNat_natCast]; rfl), d]
theorem letters_h1 (s : ByteArray) (i : Nat) (hc : cutD (bytesOf s) = (bytesOf s).drop i) : ∀ z, z < (lettersOf (bytesOf s)).length → ∃ h : i + z < (bytesOf s).length, isL ((bytesOf s)[i + z]'h) = true := by
  intro z hz
  obtain ⟨h, e⟩ := tw_at _ z hz
  simp only [hc] at h e
  have h' : i + z < (bytesOf s).length := by rw [List.length_drop] at h; omega
  exact ⟨h', by rw [List.getElem_drop] at e; exact e⟩
theorem letters_h2 (s : ByteArray) (i : Nat) (hc : cutD (bytesOf s) = (bytesOf s).drop i) : ∀ h : i + (lettersOf (bytesOf s)).length < (bytesOf s).length, isL ((bytesOf s)[i + (lettersOf (bytesOf s)).length]'h) = false := by
  intro h
  have := tw_end (cutD (bytesOf s)) (by show (lettersOf (bytesOf s)).length < _; rw [hc, List.length_drop]; omega)
  simp only [hc, List.getElem_drop] at this
  have e : ((bytesOf s).drop i).takeWhile isL = lettersOf (bytesOf s) := by unfold lettersOf; rw [hc]
  simp only [e] at this
  exact this
theorem letters_take (s : ByteArray) (i : Nat) (hc : cutD (bytesOf s) = (bytesOf s).drop i) : ((bytesOf s).drop i).take (lettersOf (bytesOf s)).length = lettersOf (bytesOf s) := by
  have := List.takeWhile_prefix isL (l := cutD (bytesOf s))
  unfold lettersOf
  rw [← hc]
  exact (List.prefix_iff_eq_take.1 this).symm
theorem letters_le (s : ByteArray) (i : Nat) (hc : cutD (bytesOf s) = (bytesOf s).drop i) : (lettersOf (bytesOf s)).length ≤ s.size - i := by
  have := tw_le (cutD (bytesOf s))
  rw [hc, List.length_drop, bytesOf_length] at this
  unfold lettersOf
  rw [hc]; exact this
theorem specL0_all (s : ByteArray) (i : Nat) (hs : s.size ≤ 1048576) (hi : i ≤ s.size) (hc : cutD (bytesOf s) = (bytesOf s).drop i) (k : Nat) (hk : s.size + 50 ≤ k) :
    spec_ReadRef.l0 k s (i : Int) (i : Int) 0 0 false (dolB (bytesOf s)) = some (finV s (l2L (rowL (bytesOf s)))) := by
  have hl := letters_le s i hc
  have := spec_l0 s 0 0 false (dolB (bytesOf s)) (i : Int) (lettersOf (bytesOf s)).length (k - (lettersOf (bytesOf s)).length - 1) i (letters_h1 s i hc) (letters_h2 s i hc) hs (by omega)
  rw [show k - (lettersOf (bytesOf s)).length - 1 + (lettersOf (bytesOf s)).length + 1 = k from by omega] at this
  rw [this]
  have h3 := specJ3 (k - (lettersOf (bytesOf s)).length - 16) s (i + (lettersOf (bytesOf s)).length) i 0 0 (dolB (bytesOf s)) (by omega) (by omega) hs
  rw [show k - (lettersOf (bytesOf s)).length - 16 + 15 = k - (lettersOf (bytesOf s)).length - 1 from by omega] at h3
  rw [h3]
  rw [show i + (lettersOf (bytesOf s)).length - i = (lettersOf (bytesOf s)).length from by omega, letters_take s i hc]
  have e : behindL (bytesOf s) = (bytesOf s).drop (i + (lettersOf (bytesOf s)).length) := by unfold behindL; rw [hc, List.drop_drop]
  unfold finV rowL
  rw [e]
theorem specReadRef_is (s : ByteArray) (hs : s.size ≤ 1048576) : spec_ReadRef.f (s.size + 60) s = some (finV s (l2L (rowL (bytesOf s)))) := by
  unfold spec_ReadRef.f
  by_cases h : 0 < s.size
  · rw [if_pos (by omega)]
    have hd := dol_at s 0 h
    simp only [List.drop_zero] at hd
    rw [show ((0 : Nat) : Int) = 0 from rfl] at hd
    rw [← hd]
    show spec_ReadRef.j0 (s.size + 59 + 1) _ _ _ _ _ _ _ = _
    simp only [spec_ReadRef.j0]
    by_cases d : dolB (bytesOf s) = true
    · rw [if_pos d, wrap_id (by omega) (by omega)]
      show spec_ReadRef.j1 (s.size + 58 + 1) _ _ _ _ _ _ = _
      simp only [spec_ReadRef.j1]
      have := specL0_all s 1 hs (by omega) (by rw [cut_drop, d]; rfl) (s.size + 58) (by omega)
      rw [d] at this
      exact this
    · rw [if_neg d]
      show spec_ReadRef.j1 (s.size + 58 + 1) _ _ _ _ _ _ = _
      simp only [spec_ReadRef.j1]
      have := specL0_all s 0 hs (by omega) (by rw [cut_drop, if_neg d]) (s.size + 58) (by omega)
      rw [show dolB (bytesOf s) = false from by simpa using d] at this
      exact this
  · rw [if_neg (by omega)]
    have d : dolB (bytesOf s) = false := by have := dol_end s 0 (by omega); simpa using this
    show spec_ReadRef.j0 (s.size + 59 + 1) _ _ _ _ _ _ _ = _
    simp only [spec_ReadRef.j0]
    rw [if_neg (by decide)]
    show spec_ReadRef.j1 (s.size + 58 + 1) _ _ _ _ _ _ = _
    simp only [spec_ReadRef.j1]
    have := specL0_all s 0 hs (by omega) (by rw [cut_drop, d]; rfl) (s.size + 58) (by omega)
    rw [d] at this
    exact this
/-! the program's -/
theorem hp_dol (s : ByteArray) : strings_HasPrefix.f s (⟨#[36]⟩ : ByteArray) = some (dolB (bytesOf s)) := by
  unfold strings_HasPrefix.f Lib.hasPrefix bytesOf
  congr 1
  show List.isPrefixOf [36] s.data.toList = _
  cases s.data.toList with
  | nil => rfl
  | cons x l =>
    simp only [List.isPrefixOf, Bool.and_true, List.map_cons, dolB]
    by_cases h : x = 36
    · subst h; rfl
    · have h1 : (36 == x) = false := by simpa using fun e => h e.symm
      have h2 : ¬ ((x.toNat : Int) = 36) := fun e => h (by have := UInt8.toNat_inj.1 (show x.toNat = (36 : UInt8).toNat from by have e2 : (36 : UInt8).toNat = 36 := rfl; omega); exact this)
      rw [h1, decide_eq_false h2]
def rowI (R : List Int) : Int := (atoiV (strOfNums R)).1
theorem atoi_is (x : ByteArray) (R : List Int) (h : bytesOf x = R) (hs : x.size ≤ 1000) : strconv_Atoi.f x = some (rowI R, (atoiV (strOfNums R)).2) := by
  unfold strconv_Atoi.f rowI
  rw [if_pos (by omega), ← h, strOfNums_bytesOf]
theorem implJ3R (k : Nat) (s x : ByteArray) (r0 c : Int) (a b : Bool) (R : List Int) (hR : bytesOf x = R) (hx : x.size ≤ 1000) :
    impl_ReadRef.j3 (k + 7) s x r0 c a b = some (if goodRefB (rowI R) c = true ∧ refTxt (rowI R) a b (strOfNums (cnL c)) = s then (rowI R, c, a, b, true) else (0, 0, false, false, false)) := by
  simp only [impl_ReadRef.j3]
  rw [atoi_is x R hR hx]
  simp only [Option.bind_some, implGoodRef_is]
  by_cases g : goodRefB (rowI R) c = true
  · rw [if_pos g, implRefText_is (k + 5) (rowI R) c a b g _ (by rw [← colName_same]; exact colName_is (k + 1) c) (cn_le c)]
    simp only [Option.bind_some, refTxt_eq]
    by_cases e : refTxt (rowI R) a b (strOfNums (cnL c)) = s
    · rw [if_pos e, if_pos ⟨g, e⟩]
    · rw [if_neg e, if_neg (fun h => e h.2)]
  · rw [if_neg g, if_neg (fun h => g h.1)]
theorem implJ2R (k : Nat) (s x : ByteArray) (n : Nat) (r0 c0 : Int) (b : Bool) (hn : n ≤ x.size) (hx : x.size ≤ 1000) :
    impl_ReadRef.j2 (k + 8) s x (n : Int) r0 c0 false b =
      some (if goodRefB (rowI (cutD ((bytesOf x).drop n))) (numL ((bytesOf x).take n)) = true ∧ refTxt (rowI (cutD ((bytesOf x).drop n))) (dolB ((bytesOf x).drop n)) b (strOfNums (cnL (numL ((bytesOf x).take n)))) = s then (rowI (cutD ((bytesOf x).drop n)), numL ((bytesOf x).take n), dolB ((bytesOf x).drop n), b, true) else (0, 0, false, false, false)) := by
  have e1 : bytesOf (x.extract 0 n) = (bytesOf x).take n := by rw [bytes_ext]; simp
  have e2 : bytesOf (x.extract n x.size) = (bytesOf x).drop n := by
    rw [bytes_ext]; exact List.take_of_length_le (by rw [List.length_drop, bytesOf_length]; omega)
  have z2 : (x.extract n x.size).size = x.size - n := by rw [ByteArray.size_extract]; omega
  simp only [impl_ReadRef.j2]
  rw [if_pos (by omega), if_pos (by omega), Int.toNat_natCast, implNumber_is (k + 2), e1, hp_dol, e2]
  simp only [Option.bind_some]
  by_cases d : dolB ((bytesOf x).drop n) = true
  · have hlt := dol_lt x n d
    rw [if_pos d, if_pos (by omega)]
    have e3 : bytesOf ((x.extract n x.size).extract 1 (x.extract n x.size).size) = cutD ((bytesOf x).drop n) := by
      rw [bytes_ext, e2, cut_drop, d, z2]
      exact List.take_of_length_le (by rw [List.length_drop, List.length_drop, bytesOf_length]; show _ - 1 ≤ _; omega)
    rw [implJ3R k s _ r0 _ true b _ e3 (by rw [ByteArray.size_extract, z2]; omega), d]
  · rw [if_neg d]
    have e3 : bytesOf (x.extract n x.size) = cutD ((bytesOf x).drop n) := by rw [e2, cut_drop, if_neg d, List.drop_zero]
    rw [implJ3R k s _ r0 _ false b _ e3 (by omega), show dolB ((bytesOf x).drop n) = false from by simpa using d]
theorem implRest (s x : ByteArray) (hx : x.size ≤ 1000) (b : Bool) (hb : dolB (bytesOf s) = b) (hc : bytesOf x = cutD (bytesOf s)) (k : Nat) (hk : x.size + 50 ≤ k) :
    impl_ReadRef.j0 (k + 1) s x 0 0 false b = some (finV s (rowI (rowL (bytesOf s)))) := by
  simp only [impl_ReadRef.j0]
  have h1 : ∀ z, z < (lettersOf (bytesOf s)).length → ∃ h : 0 + z < (bytesOf x).length, isL ((bytesOf x)[0 + z]'h) = true := by
    intro z hz
    obtain ⟨h, e⟩ := tw_at _ z hz
    simp only [← hc] at h e
    exact ⟨by simpa using h, by simpa using e⟩
  have h2 : ∀ h : 0 + (lettersOf (bytesOf s)).length < (bytesOf x).length, isL ((bytesOf x)[0 + (lettersOf (bytesOf s)).length]'h) = false := by
    intro h
    have := tw_end (cutD (bytesOf s)) (by show (lettersOf (bytesOf s)).length < _; rw [← hc]; omega)
    have e : (cutD (bytesOf s)).takeWhile isL = lettersOf (bytesOf s) := rfl
    simp only [e] at this
    simp only [← hc] at this
    simpa using this
  have hl : (lettersOf (bytesOf s)).length ≤ x.size := by
    have := tw_le (cutD (bytesOf s)); rw [← bytesOf_length x, hc]; exact this
  have h0 := impl_l0 s x 0 0 false b (lettersOf (bytesOf s)).length (k - (lettersOf (bytesOf s)).length - 1) 0 h1 h2 (by omega) (by omega)
  rw [show k - (lettersOf (bytesOf s)).length - 1 + (lettersOf (bytesOf s)).length + 1 = k from by omega] at h0
  rw [show ((0 : Nat) : Int) = 0 from rfl] at h0
  rw [h0, Nat.zero_add]
  have h3 := implJ2R (k - (lettersOf (bytesOf s)).length - 9) s x (lettersOf (bytesOf s)).length 0 0 b hl hx
  rw [show k - (lettersOf (bytesOf s)).length - 9 + 8 = k - (lettersOf (bytesOf s)).length - 1 from by omega] at h3
  have e1 : (bytesOf x).take (lettersOf (bytesOf s)).length = lettersOf (bytesOf s) := by
    rw [hc]; exact (List.prefix_iff_eq_take.1 (List.takeWhile_prefix isL)).symm
  have e2 : (bytesOf x).drop (lettersOf (bytesOf s)).length = behindL (bytesOf s) := by unfold behindL; rw [hc]
  rw [h3, e1, e2]
  unfold finV rowL
  rw [hb]
theorem implReadRef_is (s : ByteArray) (hs : s.size ≤ 12) : impl_ReadRef.f (s.size + 60) s = some (finV s (rowI (rowL (bytesOf s)))) := by
  unfold impl_ReadRef.f
  rw [if_neg (by omega), hp_dol]
  simp only [Option.bind_some]
  by_cases d : dolB (bytesOf s) = true
  · have hlt : 0 < s.size := by have := dol_lt s 0 (by simpa using d); exact this
    rw [if_pos d, if_pos (by omega)]
    have z : (s.extract 1 s.size).size = s.size - 1 := by rw [ByteArray.size_extract]; omega
    have e : bytesOf (s.extract 1 s.size) = cutD (bytesOf s) := by
      rw [bytes_ext, cut_drop, d]
      exact List.take_of_length_le (by rw [List.length_drop, bytesOf_length]; exact Nat.le_refl _)
    exact implRest s _ (by omega) true d e (s.size + 59) (by omega)
  · rw [if_neg d]
    exact implRest s s (by omega) false (by simpa using d) (by rw [cut_drop, if_neg d, List.drop_zero]) (s.size + 59) (by omega)

/-! a reference's own text is read back -/
def txtL (r : Int) : List Int := bytesOf (txt r)
theorem bytes_app (x y : ByteArray) : bytesOf (x ++ y) = bytesOf x ++ bytesOf y := by
  unfold bytesOf; rw [ByteArray.data_append]; simp
theorem bytes_dol (b : Bool) : bytesOf (if b then (⟨#[36]⟩ : ByteArray) else ⟨#[]⟩) = dolL b := by cases b <;> rfl
theorem cn_letters (c : Int) : ∀ x ∈ cnL c, isL x = true := by
  intro x hx
  unfold isL
  refine decide_eq_true ?_
  unfold cnL at hx
  split at hx
  · cases hx
  · split at hx
    · cases hx
    · split at hx
      · simp at hx; omega
      · simp at hx; omega
theorem txtL_nat (u : Nat) : txtL (u : Int) = (Lib.decDigits u).map fun b => (b.toNat : Int) := by
  have e : Lib.itoa (u : Int) = Lib.decDigits u := by unfold Lib.itoa; rw [if_neg (by omega)]; simp
  unfold txtL bytesOf txt; rw [e]
theorem txtL_digit (u : Nat) : ∀ x ∈ txtL (u : Int), 48 ≤ x ∧ x ≤ 57 := by
  intro x hx
  rw [txtL_nat, Lib.decDigits_eq, List.map_map] at hx
  obtain ⟨t, _, rfl⟩ := List.mem_map.1 hx
  simp only [Function.comp, Lib.dg, UInt8.toNat_ofNat']
  omega
theorem tw_none (l : List Int) (a : Bool) (h : ∀ x ∈ l, 48 ≤ x ∧ x ≤ 57) : (dolL a ++ l).takeWhile isL = [] := by
  cases a
  · cases l with
    | nil => rfl
    | cons x l =>
      have := h x (by simp)
      show (x :: l).takeWhile isL = []
      rw [List.takeWhile_cons_of_neg]
      unfold isL; simp; omega
  · show (36 :: l).takeWhile isL = []
    rw [List.takeWhile_cons_of_neg (by decide)]
theorem row_of (s : ByteArray) (r c : Int) (hr : 1 ≤ r) (h : refTxt r (dolB (behindL (bytesOf s))) (dolB (bytesOf s)) (strOfNums (cnL c)) = s) : rowL (bytesOf s) = txtL r := by
  obtain ⟨u, rfl⟩ : ∃ u : Nat, r = u := ⟨r.toNat, by omega⟩
  have hL : bytesOf s = dolL (dolB (bytesOf s)) ++ (cnL c ++ (dolL (dolB (behindL (bytesOf s))) ++ txtL (u : Int))) := by
    conv => lhs; rw [← h]
    unfold refTxt
    rw [bytes_app, bytes_app, bytes_app, bytes_dol, bytes_dol, bytesOf_strOfNums _ (cnL_ok c)]
    unfold txtL
    simp only [List.append_assoc]
  have hX : cutD (bytesOf s) = cnL c ++ (dolL (dolB (behindL (bytesOf s))) ++ txtL (u : Int)) := by
    have := dol_split (bytesOf s)
    exact List.append_cancel_left (this.symm.trans hL)
  have hlet : lettersOf (bytesOf s) = cnL c := by
    unfold lettersOf
    rw [hX, List.takeWhile_append_of_pos (cn_letters c), tw_none _ _ (txtL_digit u), List.append_nil]
  have hbeh : behindL (bytesOf s) = dolL (dolB (behindL (bytesOf s))) ++ txtL (u : Int) := by
    conv => lhs; unfold behindL
    rw [hlet, hX, List.drop_left]
  unfold rowL
  exact List.append_cancel_left ((dol_split (behindL (bytesOf s))).symm.trans hbeh)
theorem toNat_dig (d : Nat) (h : d ≤ 9) : ((UInt8.ofNat (48 + d)).toNat : Int) = 48 + d := by
  rw [UInt8.toNat_ofNat']; omega
theorem l2_txt (r : Int) (h1 : 1 ≤ r) (h2 : r ≤ 1000) : l2L (txtL r) = r := by
  obtain ⟨u, rfl⟩ : ∃ u : Nat, r = u := ⟨r.toNat, by omega⟩
  rw [txtL_nat]
  have st : ∀ (acc : Int) (d : Nat) (l : List Int), d ≤ 9 → l2go acc ((48 + (d : Int)) :: l) = l2go (acc * 10 + d) l := by
    intro acc d l hd
    show (if 48 ≤ 48 + (d : Int) ∧ 48 + (d : Int) ≤ 57 then l2go (acc * 10 + (48 + (d : Int) - 48)) l else -1) = _
    rw [if_pos (by omega), show (48 + (d : Int) - 48) = d from by omega]
  by_cases a : u < 10
  · rw [Lib.decDigits, dif_pos a]
    simp only [List.map_cons, List.map_nil, toNat_dig u (by omega)]
    show l2go 0 [48 + (u : Int)] = _
    rw [st 0 u [] (by omega)]; show (0 : Int) * 10 + u = u; omega
  · rw [Lib.decDigits, dif_neg a]
    by_cases b : u < 100
    · rw [Lib.decDigits, dif_pos (by omega)]
      simp only [List.map_append, List.map_cons, List.map_nil, toNat_dig (u / 10) (by omega), toNat_dig (u % 10) (by omega)]
      show l2go 0 [48 + ((u / 10 : Nat) : Int), 48 + ((u % 10 : Nat) : Int)] = _
      rw [st 0 _ _ (by omega), st _ _ _ (by omega)]; show ((0 : Int) * 10 + (u / 10 : Nat)) * 10 + (u % 10 : Nat) = u; omega
    · rw [Lib.decDigits, dif_neg (by omega)]
      by_cases c : u < 1000
      · rw [Lib.decDigits, dif_pos (by omega)]
        simp only [List.map_append, List.map_cons, List.map_nil, toNat_dig (u / 10 / 10) (by omega), toNat_dig (u / 10 % 10) (by omega), toNat_dig (u % 10) (by omega)]
        show l2go 0 [48 + ((u / 10 / 10 : Nat) : Int), 48 + ((u / 10 % 10 : Nat) : Int), 48 + ((u % 10 : Nat) : Int)] = _
        rw [st 0 _ _ (by omega), st _ _ _ (by omega), st _ _ _ (by omega)]; show (((0 : Int) * 10 + (u / 10 / 10 : Nat)) * 10 + (u / 10 % 10 : Nat)) * 10 + (u % 10 : Nat) = u; omega
      · obtain rfl : u = 1000 := by omega
        rw [Lib.decDigits, dif_neg (by decide), Lib.decDigits, dif_pos (by decide)]
        rfl
theorem decFrom_snoc : ∀ (l : List UInt8) (acc n : Nat) (b : UInt8) (d : Nat), Lib.decFrom acc l = some n → Lib.digitVal b = some d → Lib.decFrom acc (l ++ [b]) = some (n * 10 + d)
  | [], acc, n, b, d, h, hb => by
    simp only [Lib.decFrom, Option.some.injEq] at h
    subst h
    simp [Lib.decFrom, hb]
  | a :: t, acc, n, b, d, h, hb => by
    simp only [Lib.decFrom, List.cons_append] at h ⊢
    cases ha : Lib.digitVal a with
    | none => simp [ha] at h
    | some e => simp only [ha] at h ⊢; exact decFrom_snoc t _ n b d h hb
theorem digitVal_dig (d : Nat) (h : d ≤ 9) : Lib.digitVal (UInt8.ofNat (48 + d)) = some d := by
  have e : (UInt8.ofNat (48 + d)).toNat = 48 + d := by rw [UInt8.toNat_ofNat']; omega
  unfold Lib.digitVal
  rw [e, if_pos (by omega)]; congr 1; omega
theorem decFrom_dec (u : Nat) : Lib.decFrom 0 (Lib.decDigits u) = some u := by
  induction u using Nat.strongRecOn with
  | _ u ih =>
    by_cases h : u < 10
    · rw [Lib.decDigits, dif_pos h]
      simp only [Lib.decFrom]; rw [digitVal_dig u (by omega)]; simp [Lib.decFrom]
    · rw [Lib.decDigits, dif_neg h, decFrom_snoc _ _ _ _ _ (ih (u / 10) (by omega)) (digitVal_dig (u % 10) (by omega))]
      congr 1; omega
theorem atoi_dec (u : Nat) (hl : (Lib.decDigits u).length ≤ 18) : Lib.atoiAll (Lib.decDigits u) = .ok (u : Int) := by
  rw [Lib.atoiAll_short _ hl]
  have hd := decFrom_dec u
  have hm : ∀ b ∈ Lib.decDigits u, 48 ≤ b.toNat := by
    intro b hb
    rw [Lib.decDigits_eq] at hb
    obtain ⟨t, _, rfl⟩ := List.mem_map.1 hb
    simp only [Lib.dg, UInt8.toNat_ofNat']; omega
  have hn : (Lib.decDigits u) ≠ [] := by
    intro h; have := Lib.decDigits_length u; rw [h] at this; have := Lib.nDigits_pos u; simp at *; omega
  revert hd hm hn
  generalize Lib.decDigits u = l
  intro hd hm hn
  cases l with
  | nil => exact absurd rfl hn
  | cons b r =>
    have h48 := hm b (by simp)
    have n1 : (b == 45) = false := by
      simp; intro e; subst e; exact absurd h48 (by decide)
    have n2 : (b == 43) = false := by
      simp; intro e; subst e; exact absurd h48 (by decide)
    show Lib.NumEnd.ofOption (if b == 45 then _ else if b == 43 then _ else (Lib.decNat (b :: r)).map fun (m : Nat) => (m : Int)) = _
    rw [n1, n2]
    simp only [Bool.false_eq_true, if_false]
    have e : Lib.decNat (b :: r) = some u := by unfold Lib.decNat; simp [hd]
    rw [e]; rfl
theorem rowI_txt (r : Int) (h1 : 1 ≤ r) (h2 : r ≤ 1000) : rowI (txtL r) = r := by
  obtain ⟨u, rfl⟩ : ∃ u : Nat, r = u := ⟨r.toNat, by omega⟩
  have e : Lib.itoa (u : Int) = Lib.decDigits u := by unfold Lib.itoa; rw [if_neg (by omega)]; simp
  have hl : (Lib.decDigits u).length ≤ 18 := by
    rw [Lib.decDigits_length]
    by_cases a : u < 10
    · rw [Lib.nDigits_small a]; omega
    · rw [Lib.nDigits_big a]
      by_cases b : u / 10 < 10
      · rw [Lib.nDigits_small b]; omega
      · rw [Lib.nDigits_big b]
        by_cases c : u / 10 / 10 < 10
        · rw [Lib.nDigits_small c]; omega
        · rw [Lib.nDigits_big c, Lib.nDigits_small (by omega)]; omega
  unfold rowI txtL
  rw [strOfNums_bytesOf]
  unfold atoiV
  have e2 : (txt (u : Int)).data.toList = Lib.decDigits u := by unfold txt; rw [e]
  rw [e2, atoi_dec u hl]
theorem good_row {r c : Int} (h : goodRefB r c = true) : 1 ≤ r ∧ r ≤ 1000 := by unfold goodRefB at h; have := of_decide_eq_true h; omega
theorem fin_same (s : ByteArray) : finV s (l2L (rowL (bytesOf s))) = finV s (rowI (rowL (bytesOf s))) := by
  by_cases h : goodRefB (l2L (rowL (bytesOf s))) (numL (lettersOf (bytesOf s))) = true ∧ refTxt (l2L (rowL (bytesOf s))) (dolB (behindL (bytesOf s))) (dolB (bytesOf s)) (strOfNums (cnL (numL (lettersOf (bytesOf s))))) = s
  · have hb := good_row h.1
    have e := row_of s _ _ hb.1 h.2
    have e2 := rowI_txt _ hb.1 hb.2
    rw [← e] at e2
    rw [e2]
  · by_cases h' : goodRefB (rowI (rowL (bytesOf s))) (numL (lettersOf (bytesOf s))) = true ∧ refTxt (rowI (rowL (bytesOf s))) (dolB (behindL (bytesOf s))) (dolB (bytesOf s)) (strOfNums (cnL (numL (lettersOf (bytesOf s))))) = s
    · have hb := good_row h'.1
      have e := row_of s _ _ hb.1 h'.2
      have e2 := l2_txt _ hb.1 hb.2
      rw [← e] at e2
      rw [e2]
    · unfold finV; rw [if_neg h, if_neg h']
theorem refTxt_le (r c : Int) (a b : Bool) (h : goodRefB r c = true) : (refTxt r a b (strOfNums (cnL c))).size ≤ 12 := by
  have hb := good_row h
  have z0 : (⟨#[]⟩ : ByteArray).size = 0 := rfl
  have z1 : (⟨#[36]⟩ : ByteArray).size = 1 := rfl
  have ht : (txt r).size ≤ 4 := by
    obtain ⟨u, rfl⟩ : ∃ u : Nat, r = u := ⟨r.toNat, by omega⟩
    rw [txt_size]
    by_cases a : u < 10
    · rw [Lib.nDigits_small a]; omega
    · rw [Lib.nDigits_big a]
      by_cases b : u / 10 < 10
      · rw [Lib.nDigits_small b]; omega
      · rw [Lib.nDigits_big b]
        by_cases c : u / 10 / 10 < 10
        · rw [Lib.nDigits_small c]; omega
        · rw [Lib.nDigits_big c, Lib.nDigits_small (by omega)]; omega
  have hc : (strOfNums (cnL c)).size ≤ 2 := by rw [strOfNums_size]; unfold cnL; (repeat' split) <;> simp
  unfold refTxt
  simp only [ByteArray.size_append]
  cases a <;> cases b <;> simp only [if_true, if_false, Bool.false_eq_true, z0, z1] <;> omega
theorem implReadRef_all (s : ByteArray) : impl_ReadRef.f (s.size + 60) s = some (finV s (l2L (rowL (bytesOf s)))) := by
  by_cases h : s.size ≤ 12
  · rw [implReadRef_is s h, fin_same]
  · unfold impl_ReadRef.f
    rw [if_pos (by omega)]
    unfold finV
    rw [if_neg (fun hh => h (by have := refTxt_le _ _ (dolB (behindL (bytesOf s))) (dolB (bytesOf s)) hh.1; rw [hh.2] at this; exact this))]

theorem dig_same (c : Int) : impl_isDigit.f c = spec_l1Digit.f c := rfl
theorem let_same (c : Int) : impl_isLetter.f c = spec_l4Letter.f c := rfl
def digB (c : Int) : Bool := decide (48 ≤ c ∧ c ≤ 57)
theorem dig_is (c : Int) : spec_l1Digit.f c = some (digB c) := by
  unfold spec_l1Digit.f digB
  by_cases h : c ≥ 48
  · rw [if_pos h]; congr 1; rw [decide_eq_decide]; omega
  · rw [if_neg h]; congr 1; symm; rw [decide_eq_false_iff_not]; omega
/-- Digits from a place on: where they end, and what both sides make of that. -/
theorem digits_end (s : ByteArray) (hs : s.size ≤ 1000) : ∀ (d i : Nat), i + d = s.size → ∃ r : Nat, i ≤ r ∧ r ≤ s.size ∧
    (∀ k, d + 1 ≤ k → impl_digitsFrom.l0 k s (i : Int) = some (r : Int)) ∧
    (∀ (x : Int) k, 0 < x → d + 1 ≤ k → spec_l4Second.l1 k s (i : Int) x = some ((r : Int) == (s.size : Int))) ∧
    (∀ (x : Int) (b : Bool) (K : Nat), (∀ k, K ≤ k → spec_l4Second.j2 k s (r : Int) x = some b) → ∀ k, K + d + 1 ≤ k → spec_l4Second.l0 k s (i : Int) x = some b)
  | 0, i, h => by
    refine ⟨i, Nat.le_refl _, by omega, ?_, ?_, ?_⟩
    · intro k hk
      obtain ⟨k, rfl⟩ : ∃ m, k = m + 1 := ⟨k - 1, by omega⟩
      rw [impl_digitsFrom.l0, if_neg (by omega)]
    · intro x k hx hk
      obtain ⟨k, rfl⟩ : ∃ m, k = m + 1 := ⟨k - 1, by omega⟩
      rw [spec_l4Second.l1, if_neg (by omega), if_pos hx]
    · intro x b K hK k hk
      obtain ⟨k, rfl⟩ : ∃ m, k = m + 1 := ⟨k - 1, by omega⟩
      rw [spec_l4Second.l0, if_neg (by omega)]
      exact hK k (by omega)
  | d + 1, i, h => by
    by_cases hd : digB (bt s (i : Int)) = true
    · obtain ⟨r, h1, h2, h3, h4, h5⟩ := digits_end s hs d (i + 1) (by omega)
      have hw : wrap64 ((i : Int) + 1) = ((i + 1 : Nat) : Int) := by unfold wrap64; omega
      have hd2 := of_decide_eq_true hd
      refine ⟨r, by omega, h2, ?_, ?_, ?_⟩
      · intro k hk
        obtain ⟨k, rfl⟩ : ∃ m, k = m + 1 := ⟨k - 1, by omega⟩
        rw [impl_digitsFrom.l0, if_pos (by omega), if_pos (by omega), if_pos (by omega), if_pos (by omega), hw]
        exact h3 k (by omega)
      · intro x k hx hk
        obtain ⟨k, rfl⟩ : ∃ m, k = m + 1 := ⟨k - 1, by omega⟩
        rw [spec_l4Second.l1, if_pos (by omega), if_pos (by omega), dig_is, hd]
        simp only [Option.bind_some, if_true]
        rw [hw]
        exact h4 x k hx (by omega)
      · intro x b K hK k hk
        obtain ⟨k, rfl⟩ : ∃ m, k = m + 1 := ⟨k - 1, by omega⟩
        rw [spec_l4Second.l0, if_pos (by omega), if_pos (by omega), dig_is, hd]
        simp only [Option.bind_some, if_true]
        rw [hw]
        exact h5 x b K hK k (by omega)
    · replace hd := Bool.eq_false_iff.mpr hd
      have hd2 := of_decide_eq_false hd
      refine ⟨i, Nat.le_refl _, by omega, ?_, ?_, ?_⟩
      · intro k hk
        obtain ⟨k, rfl⟩ : ∃ m, k = m + 1 := ⟨k - 1, by omega⟩
        rw [impl_digitsFrom.l0, if_pos (by omega), if_pos (by omega)]
        by_cases g : bt s (i : Int) ≥ 48
        · rw [if_pos g, if_neg (by omega)]
        · rw [if_neg g]
      · intro x k hx hk
        obtain ⟨k, rfl⟩ : ∃ m, k = m + 1 := ⟨k - 1, by omega⟩
        rw [spec_l4Second.l1, if_pos (by omega), if_pos (by omega), dig_is, hd]
        simp only [Option.bind_some, Bool.false_eq_true, if_false]
        rw [if_pos hx]
      · intro x b K hK k hk
        obtain ⟨k, rfl⟩ : ∃ m, k = m + 1 := ⟨k - 1, by omega⟩
        rw [spec_l4Second.l0, if_pos (by omega), if_pos (by omega), dig_is, hd]
        simp only [Option.bind_some, Bool.false_eq_true, if_false]
        exact hK k (by omega)
/-- Is a text like R, RC or C? Both sides say the same. -/
theorem like_same (s : ByteArray) (hs : s.size ≤ 1000) : ∃ b, ∀ k, 3000 ≤ k → spec_l4Second.f k s = some b ∧ impl_likeBy.f k s = some b := by
  have w1 : wrap64 (0 + 1) = 1 := by unfold wrap64; omega
  have w2 : wrap64 (1 + 1) = 2 := by unfold wrap64; omega
  by_cases h0 : 0 < (s.size : Int)
  · by_cases hR : bt s 0 = 82
    · obtain ⟨r, h1, h2, h3, h4, h5⟩ := digits_end s hs (s.size - 1) 1 (by omega)
      have hj : ∃ b, (∀ k, 1500 ≤ k → spec_l4Second.j2 k s (r : Int) 1 = some b) ∧ (∀ k, 2000 ≤ k → (if (r : Int) < (s.size : Int) then (if 0 ≤ (r : Int) then (if (bt s (r : Int)) = 67 then ((impl_digitsFrom.f k s (wrap64 ((r : Int) + 1))).bind fun t381 => (some (t381 == (s.size : Int)))) else (some ((r : Int) == (s.size : Int)))) else (none)) else (some ((r : Int) == (s.size : Int)))) = some b) := by
        by_cases hr : (r : Int) < (s.size : Int)
        · by_cases hc : bt s (r : Int) = 67
          · obtain ⟨q, q1, q2, q3, q4, q5⟩ := digits_end s hs (s.size - (r + 1)) (r + 1) (by omega)
            have hw : wrap64 ((r : Int) + 1) = ((r + 1 : Nat) : Int) := by unfold wrap64; omega
            refine ⟨(q : Int) == (s.size : Int), fun k hk => ?_, fun k hk => ?_⟩
            · obtain ⟨k, rfl⟩ : ∃ m, k = m + 2 := ⟨k - 2, by omega⟩
              rw [spec_l4Second.j2, if_pos hr, if_pos (by omega), spec_l4Second.j3, hc, if_pos (by decide), hw, w2]
              exact q4 2 k (by omega) (by omega)
            · rw [if_pos hr, if_pos (by omega), if_pos hc, hw]
              unfold impl_digitsFrom.f
              rw [q3 k (by omega)]; rfl
          · refine ⟨(r : Int) == (s.size : Int), fun k hk => ?_, fun k hk => ?_⟩
            · obtain ⟨k, rfl⟩ : ∃ m, k = m + 2 := ⟨k - 2, by omega⟩
              rw [spec_l4Second.j2, if_pos hr, if_pos (by omega), spec_l4Second.j3, if_neg (by simpa using hc), if_pos (by omega)]
            · rw [if_pos hr, if_pos (by omega), if_neg hc]
        · refine ⟨(r : Int) == (s.size : Int), fun k hk => ?_, fun k hk => ?_⟩
          · obtain ⟨k, rfl⟩ : ∃ m, k = m + 2 := ⟨k - 2, by omega⟩
            rw [spec_l4Second.j2, if_neg hr, spec_l4Second.j3, if_neg (by decide), if_pos (by omega)]
          · rw [if_neg hr]
      obtain ⟨b, hb1, hb2⟩ := hj
      refine ⟨b, fun k hk => ⟨?_, ?_⟩⟩
      · obtain ⟨k, rfl⟩ : ∃ m, k = m + 1 := ⟨k - 1, by omega⟩
        rw [spec_l4Second.f, if_pos h0, hR, spec_l4Second.j0, if_pos (by decide), w1]
        exact h5 1 b 1500 hb1 k (by omega)
      · obtain ⟨k, rfl⟩ : ∃ m, k = m + 1 := ⟨k - 1, by omega⟩
        rw [impl_likeBy.f, if_pos h0, hR, impl_likeBy.j0, if_pos (by decide)]
        unfold impl_digitsFrom.f
        rw [show (1 : Int) = ((1 : Nat) : Int) from rfl, h3 k (by omega)]
        simp only [Option.bind_some]
        exact hb2 k (by omega)
    · by_cases hC : bt s 0 = 67
      · obtain ⟨q, q1, q2, q3, q4, q5⟩ := digits_end s hs (s.size - 1) 1 (by omega)
        refine ⟨(q : Int) == (s.size : Int), fun k hk => ⟨?_, ?_⟩⟩
        · obtain ⟨k, rfl⟩ : ∃ m, k = m + 3 := ⟨k - 3, by omega⟩
          rw [spec_l4Second.f, if_pos h0, spec_l4Second.j0, if_neg (by simpa using hR), spec_l4Second.j2, if_pos h0, if_pos (by omega), spec_l4Second.j3, hC, if_pos (by decide), w1]
          exact q4 1 k (by omega) (by omega)
        · obtain ⟨k, rfl⟩ : ∃ m, k = m + 1 := ⟨k - 1, by omega⟩
          rw [impl_likeBy.f, if_pos h0, impl_likeBy.j0, if_neg (by simpa using hR), if_pos h0, if_pos (by omega), if_pos hC, w1]
          unfold impl_digitsFrom.f
          rw [show (1 : Int) = ((1 : Nat) : Int) from rfl, q3 k (by omega)]; rfl
      · refine ⟨false, fun k hk => ⟨?_, ?_⟩⟩
        · obtain ⟨k, rfl⟩ : ∃ m, k = m + 3 := ⟨k - 3, by omega⟩
          rw [spec_l4Second.f, if_pos h0, spec_l4Second.j0, if_neg (by simpa using hR), spec_l4Second.j2, if_pos h0, if_pos (by omega), spec_l4Second.j3, if_neg (by simpa using hC), if_neg (by omega)]
        · obtain ⟨k, rfl⟩ : ∃ m, k = m + 1 := ⟨k - 1, by omega⟩
          rw [impl_likeBy.f, if_pos h0, impl_likeBy.j0, if_neg (by simpa using hR), if_pos h0, if_pos (by omega), if_neg hC, if_neg (by decide)]
  · refine ⟨false, fun k hk => ⟨?_, ?_⟩⟩
    · obtain ⟨k, rfl⟩ : ∃ m, k = m + 3 := ⟨k - 3, by omega⟩
      rw [spec_l4Second.f, if_neg h0, spec_l4Second.j0, if_neg (by decide), spec_l4Second.j2, if_neg h0, spec_l4Second.j3, if_neg (by decide), if_neg (by omega)]
    · obtain ⟨k, rfl⟩ : ∃ m, k = m + 1 := ⟨k - 1, by omega⟩
      rw [impl_likeBy.f, if_neg h0, impl_likeBy.j0, if_neg (by decide), if_neg h0, if_neg (by decide)]

theorem upS_size (s : ByteArray) : (upS s).size = s.size := by
  unfold upS; rw [strOfNums_size]; simp
/-- What is asked of a text in capitals: is it no word of its own, no place? -/
theorem tail_same (u : ByteArray) (hu : u.size ≤ 1000) : ∃ b, ∀ k, 4000 ≤ k →
    (if u.toList = ([84, 82, 85, 69] : List UInt8) then (some false) else (if u.toList = ([70, 65, 76, 83, 69] : List UInt8) then (some false) else ((spec_l4Second.f k u).bind fun t258 => (if t258 = true then (some false) else ((spec_ReadRef.f k u).bind fun bt259 => (some (!bt259.2.2.2.2))))))) = some b ∧
    (if u.toList = ([84, 82, 85, 69] : List UInt8) then (some false) else (if u.toList = ([70, 65, 76, 83, 69] : List UInt8) then (some false) else ((impl_likeBy.f k u).bind fun t444 => (if t444 = true then (some false) else ((impl_ReadRef.f k u).bind fun bt445 => (some (!bt445.2.2.2.2))))))) = some b := by
  by_cases h1 : u.toList = ([84, 82, 85, 69] : List UInt8)
  · exact ⟨false, fun k _ => by rw [if_pos h1, if_pos h1]; exact ⟨rfl, rfl⟩⟩
  by_cases h2 : u.toList = ([70, 65, 76, 83, 69] : List UInt8)
  · exact ⟨false, fun k _ => by rw [if_neg h1, if_neg h1, if_pos h2, if_pos h2]; exact ⟨rfl, rfl⟩⟩
  obtain ⟨b, hb⟩ := like_same u hu
  refine ⟨if b = true then false else !(finV u (l2L (rowL (bytesOf u)))).2.2.2.2, fun k hk => ?_⟩
  obtain ⟨e1, e2⟩ := hb k (by omega)
  rw [if_neg h1, if_neg h1, if_neg h2, if_neg h2, e1, e2]
  simp only [Option.bind_some]
  cases b with
  | true => exact ⟨rfl, rfl⟩
  | false =>
    rw [at_rounds (fun k => spec_ReadRef.mono u k) (by omega : u.size + 60 ≤ k) (specReadRef_is u (by omega)), at_rounds (fun k => impl_ReadRef.mono u k) (by omega : u.size + 60 ≤ k) (implReadRef_all u)]
    exact ⟨rfl, rfl⟩
theorem nameByte_is (c : Int) : spec_l4NameByte.f c = some ((spec_l4Letter.f c).getD false || (digB c || (c == 95 || c == 46))) := by
  unfold spec_l4NameByte.f
  have hl : ∃ b, spec_l4Letter.f c = some b := by
    unfold spec_l4Letter.f; repeat' split
    all_goals exact ⟨_, rfl⟩
  obtain ⟨b, hb⟩ := hl
  rw [hb, dig_is]
  simp only [Option.bind_some, Option.getD_some]
  cases b
  · cases digB c
    · by_cases h : c = 95
      · subst h; rfl
      · rw [if_neg (by decide), if_neg (by decide), if_neg h, show (c == 95) = false from beq_eq_false_iff_ne.mpr h]; rfl
    · rfl
  · rfl
/-- The bytes of a name from a place on, and what is behind them. -/
theorem nameL_same (s : ByteArray) (hs : s.size ≤ 20) : ∀ (d i : Nat), i + d = s.size → ∃ b, ∀ k, 4000 + d + 1 ≤ k → spec_l4Name.l0 k s (i : Int) = some b ∧ impl_isName.l0 k s (i : Int) = some b
  | 0, i, h => by
    obtain ⟨b, hb⟩ := tail_same (upS s) (by rw [upS_size]; omega)
    refine ⟨b, fun k hk => ?_⟩
    obtain ⟨k, rfl⟩ : ∃ m, k = m + 1 := ⟨k - 1, by omega⟩
    obtain ⟨h1, h2⟩ := hb k (by omega)
    rw [spec_l4Name.l0, impl_isName.l0, if_neg (by omega), if_neg (by omega)]
    unfold spec_l4Upper.f impl_capitals.f
    rw [if_pos (by omega : s.size ≤ 1048576)]
    exact ⟨h1, h2⟩
  | d + 1, i, h => by
    obtain ⟨b, hb⟩ := nameL_same s hs d (i + 1) (by omega)
    have hw : wrap64 ((i : Int) + 1) = ((i + 1 : Nat) : Int) := by unfold wrap64; omega
    have hl : ∃ l, spec_l4Letter.f (bt s (i : Int)) = some l := by
      unfold spec_l4Letter.f; repeat' split
      all_goals exact ⟨_, rfl⟩
    obtain ⟨l, hl⟩ := hl
    have hI : ∀ k, impl_isName.l0 (k + 1) s (i : Int) = if (l || (digB (bt s (i : Int)) || (bt s (i : Int) == 95 || bt s (i : Int) == 46))) = true then impl_isName.l0 k s ((i + 1 : Nat) : Int) else some false := by
      intro k
      rw [impl_isName.l0, if_pos (by omega), if_pos (by omega), let_same, hl, dig_same, dig_is, hw]
      simp only [Option.bind_some]
      cases l
      · cases digB (bt s (i : Int))
        · by_cases h5 : bt s (i : Int) = 95
          · rw [if_neg (by decide), if_neg (by decide), if_pos h5, h5]; rfl
          · by_cases h6 : bt s (i : Int) = 46
            · rw [if_neg (by decide), if_neg (by decide), if_neg h5, if_pos h6, h6]; rfl
            · rw [if_neg (by decide), if_neg (by decide), if_neg h5, if_neg h6, show (bt s (i : Int) == 95) = false from beq_eq_false_iff_ne.mpr h5, show (bt s (i : Int) == 46) = false from beq_eq_false_iff_ne.mpr h6]; rfl
        · rfl
      · rfl
    have hS : ∀ k, spec_l4Name.l0 (k + 1) s (i : Int) = if (l || (digB (bt s (i : Int)) || (bt s (i : Int) == 95 || bt s (i : Int) == 46))) = true then spec_l4Name.l0 k s ((i + 1 : Nat) : Int) else some false := by
      intro k
      rw [spec_l4Name.l0, if_pos (by omega), if_pos (by omega), nameByte_is, hl, hw]
      rfl
    by_cases hb2 : (l || (digB (bt s (i : Int)) || (bt s (i : Int) == 95 || bt s (i : Int) == 46))) = true
    · refine ⟨b, fun k hk => ?_⟩
      obtain ⟨k, rfl⟩ : ∃ m, k = m + 1 := ⟨k - 1, by omega⟩
      rw [hS, hI, if_pos hb2, if_pos hb2]
      exact hb k (by omega)
    · refine ⟨false, fun k hk => ?_⟩
      obtain ⟨k, rfl⟩ : ∃ m, k = m + 1 := ⟨k - 1, by omega⟩
      rw [hS, hI, if_neg hb2, if_neg hb2]
      exact ⟨rfl, rfl⟩
/-- Is a text a name? Both sides say the same. -/
theorem name_same (s : ByteArray) : ∃ b, spec_l4Name.f NK s = some b ∧ impl_isName.f NK s = some b := by
  have e : NK = 1048599 + 1 := rfl
  unfold spec_l4Name.f impl_isName.f
  rw [e]
  by_cases h1 : (s.size : Int) < 1
  · rw [if_pos h1, if_pos h1]; exact ⟨false, by rw [spec_l4Name.j0, if_pos rfl], by rw [impl_isName.j0, if_pos rfl]⟩
  rw [if_neg h1, if_neg h1]
  by_cases h2 : (s.size : Int) > 20
  · rw [if_pos h2, if_pos h2]; exact ⟨false, by rw [spec_l4Name.j0, if_pos rfl], by rw [impl_isName.j0, if_pos rfl]⟩
  rw [if_neg h2, if_neg h2, if_pos (by omega), if_pos (by omega), let_same]
  have hl : ∃ l, spec_l4Letter.f (bt s 0) = some l := by
    unfold spec_l4Letter.f; repeat' split
    all_goals exact ⟨_, rfl⟩
  obtain ⟨l, hl⟩ := hl
  rw [hl]
  simp only [Option.bind_some]
  obtain ⟨b, hb⟩ := nameL_same s (by omega) s.size 0 (by omega)
  have hb2 := hb 1048599 (by omega)
  have both : ∀ z : Bool, ∃ b, spec_l4Name.j0 (1048599 + 1) s z = some b ∧ impl_isName.j0 (1048599 + 1) s z = some b := by
    intro z
    rw [spec_l4Name.j0, impl_isName.j0]
    cases z
    · rw [if_neg (by decide), if_neg (by decide)]; exact ⟨b, hb2⟩
    · exact ⟨false, rfl, rfl⟩
  cases l
  · rw [if_neg (by decide), if_neg (by decide)]; exact both _
  · rw [if_pos rfl, if_pos rfl]; exact both _

theorem atoiV_txt (r : Int) (h1 : 1 ≤ r) (h2 : r ≤ 1000) : atoiV (txt r) = (r, none) := by
  obtain ⟨u, rfl⟩ : ∃ u : Nat, r = u := ⟨r.toNat, by omega⟩
  have e : Lib.itoa (u : Int) = Lib.decDigits u := by unfold Lib.itoa; rw [if_neg (by omega)]; simp
  have hl : (Lib.decDigits u).length ≤ 18 := by
    rw [Lib.decDigits_length]
    by_cases a : u < 10
    · rw [Lib.nDigits_small a]; omega
    · rw [Lib.nDigits_big a]
      by_cases b : u / 10 < 10
      · rw [Lib.nDigits_small b]; omega
      · rw [Lib.nDigits_big b]
        by_cases c : u / 10 / 10 < 10
        · rw [Lib.nDigits_small c]; omega
        · rw [Lib.nDigits_big c, Lib.nDigits_small (by omega)]; omega
  have e2 : (txt (u : Int)).data.toList = Lib.decDigits u := by unfold txt; rw [e]
  unfold atoiV
  rw [e2, atoi_dec u hl]
theorem txt_of {v : Int} {t : ByteArray} (h : ((txt v).toList == t.toList) = true) : t = txt v := by
  have h2 : (txt v).toList = t.toList := by simpa using h
  rw [toList_iff] at h2
  exact (bytesOf_inj h2).symm
/-- An array's rows: both sides read the same. -/
theorem ar_same (t : ByteArray) (m : Int) : ∃ v, spec_l2Number.f NK t = some v ∧ arB v t m = ((atoiV t).2.isNone && arB (atoiV t).1 t m) := by
  refine ⟨l2L (bytesOf t), at_rounds (fun k => spec_l2Number.mono t k) (by unfold NK; omega : 0 + 10 ≤ NK) (l2_is 0 t), ?_⟩
  rw [Bool.eq_iff_iff]
  constructor
  · intro h
    have h' := h
    unfold arB at h
    obtain ⟨a1, h⟩ := Bool.and_eq_true_iff.mp h
    obtain ⟨a2, h⟩ := Bool.and_eq_true_iff.mp h
    obtain ⟨a3, _⟩ := Bool.and_eq_true_iff.mp h
    have b1 := of_decide_eq_true a1; have b2 := of_decide_eq_true a2
    have e := txt_of a3
    have ea : atoiV t = (l2L (bytesOf t), none) := by
      have := atoiV_txt (l2L (bytesOf t)) b1 (by omega)
      rw [← e] at this; exact this
    rw [ea]; simpa using h'
  · intro h
    obtain ⟨h0, h⟩ := Bool.and_eq_true_iff.mp h
    have h' := h
    unfold arB at h
    obtain ⟨a1, h⟩ := Bool.and_eq_true_iff.mp h
    obtain ⟨a2, h⟩ := Bool.and_eq_true_iff.mp h
    obtain ⟨a3, _⟩ := Bool.and_eq_true_iff.mp h
    have b1 := of_decide_eq_true a1; have b2 := of_decide_eq_true a2
    have e := txt_of a3
    have ev : l2L (bytesOf t) = (atoiV t).1 := by
      have := l2_txt (atoiV t).1 b1 (by omega)
      unfold txtL at this
      rw [← e] at this; exact this
    rw [ev]; exact h'
/-- What both sides say of a node's own fields. -/
def nodeV (x : S67) : Bool := (goodN x).getD false
theorem goodN_is (x : S67) (hs : x.f1.size ≤ 1048576) : goodN x = some (nodeV x) ∧ ∀ (l : List S70) (many : Bool), spec_l4Right.f x.f0 x.f1 x.f2.f0 x.f2.f1 x.f2.f2 x.f3.f0 x.f3.f1 x.f3.f2 x.f3.f3 x.f4.f0 x.f4.f1 x.f4.f2 x.f4.f3 x.f5 l many = some (x.f5 == (l.length : Int) && ((!(x.f0 == 13) || many) && (nodeV x && (!(x.f0 == 12) || l.all constB)))) := by
  obtain ⟨nm, n1, n2⟩ := name_same x.f1
  obtain ⟨v, v1, v2⟩ := ar_same x.f1 x.f5
  have hg : ∃ nm', goodN x = some (nodeB nm' ((atoiV x.f1).2.isNone && arB (atoiV x.f1).1 x.f1 x.f5) x.f0 x.f1 x.f2.f0 x.f2.f1 x.f2.f2 x.f3.f0 x.f3.f1 x.f3.f2 x.f3.f3 x.f4.f0 x.f4.f1 x.f4.f2 x.f4.f3 x.f5) ∧ (if x.f0 = 7 ∨ x.f0 = 11 then spec_l4Name.f NK x.f1 else some false) = some nm' := by
    unfold goodN impl_goodNode.f
    rw [if_pos hs]
    by_cases hk : x.f0 = 7 ∨ x.f0 = 11
    · rw [if_pos hk, if_pos hk, n1, n2]; exact ⟨nm, rfl, rfl⟩
    · rw [if_neg hk, if_neg hk]; exact ⟨false, rfl, rfl⟩
  obtain ⟨nm', g1, g2⟩ := hg
  have gv : nodeV x = nodeB nm' ((atoiV x.f1).2.isNone && arB (atoiV x.f1).1 x.f1 x.f5) x.f0 x.f1 x.f2.f0 x.f2.f1 x.f2.f2 x.f3.f0 x.f3.f1 x.f3.f2 x.f3.f3 x.f4.f0 x.f4.f1 x.f4.f2 x.f4.f3 x.f5 := by unfold nodeV; rw [g1]; rfl
  refine ⟨by rw [gv]; exact g1, fun l many => ?_⟩
  unfold spec_l4Right.f
  rw [if_pos hs, g2]
  simp only [Option.bind_some]
  by_cases h12 : x.f0 = 12
  · rw [if_pos h12, v1]
    simp only [Option.bind_some]
    rw [gv, v2, h12, nodeB_12, nodeB_12]
    congr 1
    generalize ((atoiV x.f1).2.isNone && arB (atoiV x.f1).1 x.f1 x.f5) = z
    generalize (zD x.f2.f0 x.f2.f1 x.f2.f2 && (zR x.f3.f0 x.f3.f1 x.f3.f2 x.f3.f3 && zR x.f4.f0 x.f4.f1 x.f4.f2 x.f4.f3)) = y
    cases y <;> cases z <;> simp
  · rw [if_neg h12]
    simp only [Option.bind_some]
    rw [gv, show (x.f0 == 12) = false from beq_eq_false_iff_ne.mpr h12]
    have hsame : ∀ a b : Bool, nodeB nm' a x.f0 x.f1 x.f2.f0 x.f2.f1 x.f2.f2 x.f3.f0 x.f3.f1 x.f3.f2 x.f3.f3 x.f4.f0 x.f4.f1 x.f4.f2 x.f4.f3 x.f5 = nodeB nm' b x.f0 x.f1 x.f2.f0 x.f2.f1 x.f2.f2 x.f3.f0 x.f3.f1 x.f3.f2 x.f3.f3 x.f4.f0 x.f4.f1 x.f4.f2 x.f4.f3 x.f5 := by
      intro a b; unfold nodeB; simp only [if_neg h12]
    rw [hsame _ ((atoiV x.f1).2.isNone && arB (atoiV x.f1).1 x.f1 x.f5)]
    simp

/-! a formula's tree: what Take reads, what Size says of it, and what the program's look comes to -/
def flatE (e : S70) (j : Int) : Int × ByteArray × Bool × Int × Int × Int × Int × Bool × Bool × Int × Int × Bool × Bool × Int × (List (S70)) × Int :=
  (e.f0.f0, e.f0.f1, e.f0.f2.f0, e.f0.f2.f1, e.f0.f2.f2, e.f0.f3.f0, e.f0.f3.f1, e.f0.f3.f2, e.f0.f3.f3, e.f0.f4.f0, e.f0.f4.f1, e.f0.f4.f2, e.f0.f4.f3, e.f0.f5, e.f1, j)
def failE : S70 := ⟨z67, []⟩
def szE (K : Nat) (e : S70) (many : Bool) : Option (Int × Int × Bool) := spec_l4Size.f K e.f0.f0 e.f0.f1 e.f0.f2.f0 e.f0.f2.f1 e.f0.f2.f2 e.f0.f3.f0 e.f0.f3.f1 e.f0.f3.f2 e.f0.f3.f3 e.f0.f4.f0 e.f0.f4.f1 e.f0.f4.f2 e.f0.f4.f3 e.f0.f5 e.f1 many
def szL (K : Nat) (c d : Int) (L : List S70) (i : Int) (n : S67) : Option (Int × Int × Bool) := spec_l4Size.l0 K c d L (L.length : Int) i n.f0 n.f1 n.f2.f0 n.f2.f1 n.f2.f2 n.f3.f0 n.f3.f1 n.f3.f2 n.f3.f3 n.f4.f0 n.f4.f1 n.f4.f2 n.f4.f3 n.f5 L
def tkL (K : Nat) (l : List S67) (i deep c : Int) (n : S67) (ks : List S70) := spec_l4Take.l0 K l i deep c n.f0 n.f1 n.f2.f0 n.f2.f1 n.f2.f2 n.f3.f0 n.f3.f1 n.f3.f2 n.f3.f3 n.f4.f0 n.f4.f1 n.f4.f2 n.f4.f3 n.f5 ks
theorem w_id {x : Int} (h1 : -1000000000 ≤ x) (h2 : x ≤ 1000000000) : wrap64 x = x := by unfold wrap64; omega
/-- What the size of a tree is told as. -/
def SizeIs (e : S70) (ok : Bool) (c d : Int) : Prop := ∃ K0, ∀ K, K0 ≤ K → ∀ many, szE K e many = some (if (ok && (!(e.f0.f0 == 13) || many)) = true then (c, d, true) else (0, 0, false))
abbrev Inf := S70 × Bool × Int × Int
def sumC (l : List Inf) : Int := l.foldr (fun z t => z.2.2.1 + t) 0
def maxD (l : List Inf) : Int := l.foldr (fun z t => max z.2.2.2 t) 0
theorem sumC_cons (z : Inf) (l : List Inf) : sumC (z :: l) = z.2.2.1 + sumC l := rfl
theorem maxD_cons (z : Inf) (l : List Inf) : maxD (z :: l) = max z.2.2.2 (maxD l) := rfl
theorem sumC_nn : ∀ (l : List Inf), (∀ z ∈ l, 1 ≤ z.2.2.1) → 0 ≤ sumC l
  | [], _ => Int.le_refl _
  | z :: l, h => by rw [sumC_cons]; have := h z (by simp); have := sumC_nn l (fun y hy => h y (by simp [hy])); omega
theorem maxD_le : ∀ (l : List Inf) (b : Int), 0 ≤ b → (∀ z ∈ l, z.2.2.2 ≤ b) → 0 ≤ maxD l ∧ maxD l ≤ b
  | [], b, hb, _ => ⟨Int.le_refl _, hb⟩
  | z :: l, b, hb, h => by rw [maxD_cons]; have := h z (by simp); have := maxD_le l b hb (fun y hy => h y (by simp [hy])); omega
/-- A kid is right where it stands, for the reference. -/
def kidS (n : S67) (len : Nat) (z : Inf) : Bool := z.2.1 && (!(z.1.f0.f0 == 13) || (n.f0 == 11 && decide (1 < len)))
theorem l3Max_is (a b : Int) : spec_l3Max.f a b = some (max a b) := by
  unfold spec_l3Max.f
  by_cases h : a > b
  · rw [if_pos h]; congr 1; omega
  · rw [if_neg h]; congr 1; omega
theorem rd_at (L : List S70) (i : Nat) (h : i < L.length) : rd_T70 L (i : Int) = L[i] := by
  unfold rd_T70
  rw [Int.toNat_natCast, List.getD_eq_getElem?_getD, List.getElem?_eq_getElem h]; rfl
theorem szL_is (n : S67) : ∀ (suf pre : List Inf) (c d : Int), (∀ z ∈ suf, SizeIs z.1 z.2.1 z.2.2.1 z.2.2.2 ∧ 1 ≤ z.2.2.1 ∧ 1 ≤ z.2.2.2 ∧ z.2.2.2 ≤ 100) → 0 ≤ c → c + sumC suf ≤ 1000000 → 0 ≤ d → d ≤ 100 → pre.length + suf.length ≤ 1000000 →
    ∃ K0, ∀ K, K0 ≤ K → szL K c d ((pre ++ suf).map (·.1)) (pre.length : Int) n = some (if suf.all (kidS n (pre.length + suf.length)) = true then (c + sumC suf, max d (maxD suf) + 1, true) else (0, 0, false))
  | [], pre, c, d, _, hc, hc2, hd, hd2, hl => by
    refine ⟨1, fun K hK => ?_⟩
    obtain ⟨K, rfl⟩ : ∃ m, K = m + 1 := ⟨K - 1, by omega⟩
    unfold szL
    rw [spec_l4Size.l0, if_neg (by simp)]
    simp only [List.all_nil, if_true]
    rw [w_id (by omega) (by omega)]
    congr 2
    · show c = c + 0; omega
    · congr 1; show d + 1 = max d 0 + 1; omega
  | z :: suf, pre, c, d, hz, hc, hc2, hd, hd2, hl => by
    obtain ⟨⟨K1, h1⟩, zc, zd, zd2⟩ := hz z (by simp)
    rw [sumC_cons] at hc2
    have hsn := sumC_nn suf (fun y hy => (hz y (by simp [hy])).2.1)
    simp only [List.length_cons] at hl
    obtain ⟨K2, h2⟩ := szL_is n suf (pre ++ [z]) (c + z.2.2.1) (max d z.2.2.2) (fun y hy => hz y (by simp [hy])) (by omega) (by omega) (by omega) (by omega) (by simp only [List.length_append, List.length_cons, List.length_nil]; omega)
    refine ⟨K1 + K2 + 1, fun K hK => ?_⟩
    obtain ⟨K, rfl⟩ : ∃ m, K = m + 1 := ⟨K - 1, by omega⟩
    have e1 := h1 K (by omega)
    have e2 := h2 K (by omega)
    rw [show (pre ++ [z]) ++ suf = pre ++ z :: suf from by simp] at e2
    have hlen : ((pre ++ z :: suf).map (·.1)).length = pre.length + (suf.length + 1) := by simp
    have hrd : rd_T70 ((pre ++ z :: suf).map (·.1)) (pre.length : Int) = z.1 := by
      rw [rd_at _ _ (by rw [hlen]; omega)]; simp
    unfold szE at e1
    unfold szL at e2 ⊢
    rw [spec_l4Size.l0, if_pos (by rw [hlen]; omega), if_pos (by omega), if_pos (by rw [hlen]; omega), hrd]
    have hlc : (((pre ++ z :: suf).map (·.1)).length : Int) = (pre.length : Int) + ((suf.length : Int) + 1) := by rw [hlen]; omega
    have hgt : decide ((((pre ++ z :: suf).map (·.1)).length : Int) > 1) = decide (1 < pre.length + (z :: suf).length) := by
      rw [decide_eq_decide, hlc, List.length_cons]; omega
    have hidx : wrap64 ((pre.length : Int) + 1) = ((pre ++ [z]).length : Int) := by rw [w_id (by omega) (by omega)]; simp
    have hpl : (pre ++ [z]).length + suf.length = pre.length + (z :: suf).length := by simp; omega
    rw [hpl] at e2
    have cont : ∀ many, many = (n.f0 == 11 && decide (1 < pre.length + (z :: suf).length)) →
        ((spec_l4Size.f K z.1.f0.f0 z.1.f0.f1 z.1.f0.f2.f0 z.1.f0.f2.f1 z.1.f0.f2.f2 z.1.f0.f3.f0 z.1.f0.f3.f1 z.1.f0.f3.f2 z.1.f0.f3.f3 z.1.f0.f4.f0 z.1.f0.f4.f1 z.1.f0.f4.f2 z.1.f0.f4.f3 z.1.f0.f5 z.1.f1 many).bind fun bt => (if bt.2.2 = true then ((spec_l3Max.f d bt.2.1).bind fun t281 => (spec_l4Size.l0 K (wrap64 (c + bt.1)) t281 ((pre ++ z :: suf).map (·.1)) (((pre ++ z :: suf).map (·.1)).length : Int) (wrap64 ((pre.length : Int) + 1)) n.f0 n.f1 n.f2.f0 n.f2.f1 n.f2.f2 n.f3.f0 n.f3.f1 n.f3.f2 n.f3.f3 n.f4.f0 n.f4.f1 n.f4.f2 n.f4.f3 n.f5 ((pre ++ z :: suf).map (·.1)))) else (some (0, 0, false)))) = some (if (z :: suf).all (kidS n (pre.length + (z :: suf).length)) = true then (c + sumC (z :: suf), max d (maxD (z :: suf)) + 1, true) else (0, 0, false)) := by
      intro many hm
      rw [e1 many]
      simp only [Option.bind_some]
      have hk : kidS n (pre.length + (z :: suf).length) z = (z.2.1 && (!(z.1.f0.f0 == 13) || many)) := by unfold kidS; rw [hm]
      rw [List.all_cons, hk]
      cases (z.2.1 && (!(z.1.f0.f0 == 13) || many))
      · rfl
      · rw [if_pos rfl, Bool.true_and]
        simp only [if_true]
        rw [l3Max_is]
        simp only [Option.bind_some]
        rw [w_id (by omega) (by omega), hidx, e2, sumC_cons, maxD_cons]
        by_cases ha : suf.all (kidS n (pre.length + (z :: suf).length)) = true
        · rw [if_pos ha, if_pos ha]
          congr 2
          · omega
          · congr 1; omega
        · rw [if_neg ha, if_neg ha]
    by_cases h11 : n.f0 = 11
    · rw [if_pos h11]
      exact cont _ (by rw [hgt, h11]; rfl)
    · rw [if_neg h11]
      exact cont _ (by rw [show (n.f0 == 11) = false from beq_eq_false_iff_ne.mpr h11]; rfl)

/-- What is known of a kid that was read at a place p. -/
def KidAt (l : List S67) (D : Nat) (p j : Int) (z : Inf) : Prop :=
  SizeIs z.1 z.2.1 z.2.2.1 z.2.2.2 ∧ z.2.2.1 = j - p ∧ p < j ∧ j ≤ (l.length : Int) ∧ 1 ≤ z.2.2.2 ∧ z.2.2.2 ≤ (D : Int) ∧ z.1.f0 = rd_T67 l p ∧ p < (l.length : Int) ∧
  (z.2.1 = true → nodeV z.1.f0 = true) ∧ (z.1.f1.length : Int) = z.1.f0.f5 ∧ (0 < z.1.f1.length → (rd_T70 z.1.f1 0).f0 = rd_T67 l (p + 1) ∧ p + 1 < (l.length : Int))
/-- A kid is right where it stands, for the program (deep: how deep its parent stands, from 0). -/
def kidG (n : S67) (deep : Int) (z : Inf) : Bool := z.2.1 && (!(z.1.f0.f0 == 13 && (!(n.f0 == 11) || n.f5 == 1)) && ((!(n.f0 == 12) || constB z.1) && decide (deep + 1 + z.2.2.2 ≤ 40)))
def TakeIs (l : List S67) (i deep : Int) (e : S70) (j : Int) : Prop := ∃ K0, ∀ K, K0 ≤ K → spec_l4Take.f K l i deep = some (flatE e j)
theorem eta70 (e : S70) : (⟨(⟨e.f0.f0, e.f0.f1, (⟨e.f0.f2.f0, e.f0.f2.f1, e.f0.f2.f2⟩ : S65), (⟨e.f0.f3.f0, e.f0.f3.f1, e.f0.f3.f2, e.f0.f3.f3⟩ : S47), (⟨e.f0.f4.f0, e.f0.f4.f1, e.f0.f4.f2, e.f0.f4.f3⟩ : S47), e.f0.f5⟩ : S67), e.f1⟩ : S70) = e := by cases e; rfl
/-- A kid of the kind 8 that is right has one kid: the reference's look at it and the program's look at the next node agree. -/
theorem const_same {l : List S67} {D : Nat} {p j : Int} {z : Inf} (h : KidAt l D p j z) (hok : z.2.1 = true) :
    constB z.1 = decide ((rd_T67 l p).f0 = 1 ∨ (rd_T67 l p).f0 = 2 ∨ (rd_T67 l p).f0 = 3 ∨ (rd_T67 l p).f0 = 4 ∨ ((rd_T67 l p).f0 = 8 ∧ p + 1 < (l.length : Int) ∧ (rd_T67 l (p + 1)).f0 = 1)) := by
  obtain ⟨_, _, _, _, _, _, h0, _, hn, hk, hf⟩ := h
  rw [← h0]
  unfold constB
  have hv := hn hok
  rw [Bool.eq_iff_iff]
  simp only [Bool.or_eq_true, Bool.and_eq_true, decide_eq_true_eq, beq_iff_eq]
  constructor
  · rintro (h | ⟨h8, hl, hq⟩)
    · omega
    · have := hf (by omega)
      rw [this.1] at hq
      exact .inr (.inr (.inr (.inr ⟨h8, this.2, hq⟩)))
  · rintro (h | h | h | h | ⟨h8, _, hq⟩)
    · exact .inl (.inl h)
    · exact .inl (.inr (.inl h))
    · exact .inl (.inr (.inr (.inl h)))
    · exact .inl (.inr (.inr (.inr h)))
    · have h5 : z.1.f0.f5 = 1 := by
        have hg : goodN z.1.f0 = some true := by
          unfold nodeV at hv
          cases hgn : goodN z.1.f0 with
          | none => rw [hgn] at hv; cases hv
          | some b => rw [hgn] at hv; exact congrArg some hv
        unfold goodN impl_goodNode.f at hg
        by_cases hs : z.1.f0.f1.size ≤ 1048576
        · rw [if_pos hs] at hg
          obtain ⟨nm, _, hg⟩ := Option.bind_eq_some_iff.mp hg
          have hg := Option.some.inj hg
          rw [h8, nodeB_8] at hg
          have := (Bool.and_eq_true_iff.mp (Bool.and_eq_true_iff.mp hg).2).1
          exact beq_iff_eq.mp this
        · rw [if_neg hs] at hg; cases hg
      have hl : z.1.f1.length = 1 := by omega
      have := hf (by omega)
      exact .inr ⟨h8, hl, by rw [this.1]; exact hq⟩
/-- The kids of a node, read one behind the other, and looked at. -/
theorem kids_is (l : List S67) (hl : l.length ≤ 300) (n : S67) (hn0 : 0 ≤ n.f5) (hn1 : n.f5 ≤ 100) (D : Nat) (hD : D ≤ 41) (deep : Int) (hd : 0 ≤ deep) (hd2 : deep ≤ 40) (rec : Int → Option Int)
    (S : ∀ i, 0 ≤ i → (TakeIs l i (deep + 1) failE (-1) ∧ rec i = some (-1)) ∨ ∃ z j, TakeIs l i (deep + 1) z.1 j ∧ KidAt l D i j z ∧ rec i = some (if (z.2.1 && decide (deep + 1 + z.2.2.2 ≤ 40)) = true then j else -1)) :
    ∀ (m : Nat) (pre : List Inf) (p : Int), (pre.length : Int) + m = n.f5 → 0 ≤ p → p ≤ 301 →
      ((∃ K0, ∀ K, K0 ≤ K → tkL K l p deep (pre.length : Int) n (pre.map (·.1)) = some (flatE failE (-1))) ∧ gKids rec l n.f0 n.f5 m p = some (-1)) ∨
      ∃ (suf : List Inf) (j : Int), suf.length = m ∧ (∃ K0, ∀ K, K0 ≤ K → tkL K l p deep (pre.length : Int) n (pre.map (·.1)) = some (flatE ⟨n, (pre ++ suf).map (·.1)⟩ j)) ∧ p ≤ j ∧ (0 < m → j ≤ (l.length : Int) ∧ p < (l.length : Int) ∧ ∀ z ∈ suf.head?, z.1.f0 = rd_T67 l p) ∧ (m = 0 → j = p) ∧ sumC suf = j - p ∧
        (∀ z ∈ suf, SizeIs z.1 z.2.1 z.2.2.1 z.2.2.2 ∧ 1 ≤ z.2.2.1 ∧ 1 ≤ z.2.2.2 ∧ z.2.2.2 ≤ (D : Int)) ∧ gKids rec l n.f0 n.f5 m p = some (if suf.all (kidG n deep) = true then j else -1)
  | 0, pre, p, hm, hp, hp2 => by
    refine .inr ⟨[], p, rfl, ⟨1, fun K hK => ?_⟩, Int.le_refl _, fun h => absurd h (by omega), fun _ => rfl, by show (0 : Int) = p - p; omega, fun z hz => absurd hz (by simp), rfl⟩
    obtain ⟨K, rfl⟩ : ∃ m, K = m + 1 := ⟨K - 1, by omega⟩
    unfold tkL
    rw [spec_l4Take.l0, if_neg (by omega), List.append_nil]; rfl
  | m + 1, pre, p, hm, hp, hp2 => by
    rcases S p hp with ⟨⟨K1, h1⟩, hr⟩ | ⟨z, j, ⟨K1, h1⟩, hz, hr⟩
    · refine .inl ⟨⟨K1 + 1, fun K hK => ?_⟩, ?_⟩
      · obtain ⟨K, rfl⟩ : ∃ m, K = m + 1 := ⟨K - 1, by omega⟩
        unfold tkL
        rw [spec_l4Take.l0, if_pos (by omega), w_id (by omega) (by omega), h1 K (by omega)]
        rfl
      · rw [gKids]
        by_cases c1 : p ≥ (l.length : Int)
        · rw [if_pos c1]
        rw [if_neg c1, if_neg (by omega)]
        by_cases c2 : (rd_T67 l p).f0 = 13 ∧ (¬ n.f0 = 11 ∨ n.f5 = 1)
        · rw [if_pos c2]
        rw [if_neg c2]
        split
        · rfl
        · rw [hr]; rfl
    · obtain ⟨z1, z2, z3, z4, z5, z6, z7, z8, z9, z10, z11⟩ := hz
      have hzz : KidAt l D p j z := ⟨z1, z2, z3, z4, z5, z6, z7, z8, z9, z10, z11⟩
      have hpl : pre.length ≤ 100 := by omega
      have step : ∀ K, K1 ≤ K → tkL (K + 1) l p deep (pre.length : Int) n (pre.map (·.1)) = tkL K l j deep ((pre ++ [z]).length : Int) n ((pre ++ [z]).map (·.1)) := by
        intro K hK
        unfold tkL
        rw [spec_l4Take.l0, if_pos (by omega), w_id (by omega) (by omega), h1 K hK]
        simp only [Option.bind_some, flatE]
        rw [if_neg (by omega), if_pos (by rw [List.length_map]; omega), w_id (by omega) (by omega), eta70]
        simp
      have gstep : gKids rec l n.f0 n.f5 (m + 1) p = if kidG n deep z = true then gKids rec l n.f0 n.f5 m j else some (-1) := by
        rw [gKids, if_neg (by omega), if_neg (by omega)]
        have hf0 : z.1.f0.f0 = (rd_T67 l p).f0 := by rw [z7]
        by_cases hok : z.2.1 = true
        · by_cases c2 : (rd_T67 l p).f0 = 13 ∧ (¬ n.f0 = 11 ∨ n.f5 = 1)
          · rw [if_pos c2, if_neg]
            unfold kidG
            rw [hf0, c2.1]
            rcases c2.2 with h | h
            · rw [show (n.f0 == 11) = false from beq_eq_false_iff_ne.mpr h]; simp
            · rw [h]; simp
          rw [if_neg c2]
          have hc13 : (!(z.1.f0.f0 == 13 && (!(n.f0 == 11) || n.f5 == 1))) = true := by
            rw [hf0]; simp only [Bool.not_eq_true', Bool.and_eq_false_iff]
            by_cases h13 : (rd_T67 l p).f0 = 13
            · right
              have : ¬ (¬ n.f0 = 11 ∨ n.f5 = 1) := fun h => c2 ⟨h13, h⟩
              have h11 : n.f0 = 11 := by
                rcases Int.decEq n.f0 11 with h | h
                · exact absurd (.inl h) this
                · exact h
              have h51 : ¬ n.f5 = 1 := fun h => this (.inr h)
              rw [show (n.f5 == 1) = false from beq_eq_false_iff_ne.mpr h51, h11]; rfl
            · left; exact beq_eq_false_iff_ne.mpr h13
          have hcs := const_same hzz hok
          unfold kidG
          rw [hok, hc13, Bool.true_and, Bool.true_and]
          by_cases h12 : n.f0 = 12
          · by_cases hcc : constB z.1 = true
            · rw [if_neg (fun h => h.2 (by rw [hcs] at hcc; exact of_decide_eq_true hcc)), hcc, Bool.or_true, Bool.true_and, hr, hok, Bool.true_and]
              by_cases hde : deep + 1 + z.2.2.2 ≤ 40
              · rw [decide_eq_true hde]; simp only [if_true, Option.bind_some]; rw [if_neg (by omega)]
              · rw [decide_eq_false hde]; rfl
            · replace hcc := Bool.eq_false_iff.mpr hcc
              rw [if_pos ⟨h12, by rw [hcs] at hcc; exact of_decide_eq_false hcc⟩, hcc, h12]; rfl
          · rw [if_neg (fun h => h12 h.1), show (n.f0 == 12) = false from beq_eq_false_iff_ne.mpr h12, hr, hok]
            simp only [Bool.not_false, Bool.true_or, Bool.true_and]
            by_cases hde : deep + 1 + z.2.2.2 ≤ 40
            · rw [decide_eq_true hde]; simp only [if_true, Option.bind_some]; rw [if_neg (by omega)]
            · rw [decide_eq_false hde]; rfl
        · replace hok := Bool.eq_false_iff.mpr hok
          rw [if_neg (show ¬ kidG n deep z = true by unfold kidG; rw [hok]; simp)]
          split
          · rfl
          split
          · rfl
          rw [hr, hok]; rfl
      rcases kids_is l hl n hn0 hn1 D hD deep hd hd2 rec S m (pre ++ [z]) j (by simp; omega) (by omega) (by omega) with ⟨⟨K2, h2⟩, g2⟩ | ⟨suf, j2, s1, ⟨K2, h2⟩, s3, s4, s5, s6, s7, g2⟩
      · refine .inl ⟨⟨K1 + K2 + 1, fun K hK => ?_⟩, ?_⟩
        · obtain ⟨K, rfl⟩ : ∃ m, K = m + 1 := ⟨K - 1, by omega⟩
          rw [step K (by omega)]; exact h2 K (by omega)
        · rw [gstep, g2]; split <;> rfl
      · refine .inr ⟨z :: suf, j2, by simp [s1], ⟨K1 + K2 + 1, fun K hK => ?_⟩, by omega, fun _ => ⟨?_, z8, fun y hy => ?_⟩, fun h => absurd h (by omega), ?_, ?_, ?_⟩
        · obtain ⟨K, rfl⟩ : ∃ m, K = m + 1 := ⟨K - 1, by omega⟩
          rw [step K (by omega), h2 K (by omega)]; simp
        · by_cases hm0 : m = 0
          · rw [s5 hm0]; exact z4
          · exact (s4 (by omega)).1
        · simp at hy; subst hy; exact z7
        · rw [sumC_cons, s6, z2]; omega
        · intro y hy
          rcases List.mem_cons.mp hy with rfl | hy
          · exact ⟨z1, by omega, z5, z6⟩
          · exact s7 y hy
        · rw [gstep, g2, List.all_cons]
          cases kidG n deep z
          · rw [if_neg (by decide), Bool.false_and, if_neg (by decide)]
          · rw [if_pos rfl, Bool.true_and]
theorem all_split (n : S67) (deep : Int) (hd2 : deep + 1 ≤ 40) (suf : List Inf) (hlen : (suf.length : Int) = n.f5) (hz : ∀ z ∈ suf, 1 ≤ z.2.2.2 ∧ z.2.2.2 ≤ 100) :
    suf.all (kidG n deep) = ((!(n.f0 == 12) || (suf.map (·.1)).all constB) && (suf.all (kidS n suf.length) && decide (deep + (maxD suf + 1) ≤ 40))) := by
  have key : ∀ l : List Inf, (∀ z ∈ l, z ∈ suf) → l.all (kidG n deep) = ((!(n.f0 == 12) || (l.map (·.1)).all constB) && (l.all (kidS n suf.length) && decide (deep + (maxD l + 1) ≤ 40))) := by
    intro l
    induction l with
    | nil =>
      intro _
      rw [show decide (deep + (maxD [] + 1) ≤ 40) = true from decide_eq_true (by show deep + (0 + 1) ≤ 40; omega)]
      simp
    | cons z l ih =>
      intro hl
      have h1 := hz z (hl z (by simp))
      have hne : 0 < suf.length := List.length_pos_of_mem (hl z (by simp))
      rw [List.all_cons, ih (fun y hy => hl y (by simp [hy])), List.map_cons, List.all_cons, List.all_cons, maxD_cons]
      have h13 : (!(z.1.f0.f0 == 13 && (!(n.f0 == 11) || n.f5 == 1))) = (!(z.1.f0.f0 == 13) || (n.f0 == 11 && decide (1 < suf.length))) := by
        have : (n.f5 == 1) = !decide (1 < suf.length) := by
          by_cases h : 1 < suf.length
          · rw [decide_eq_true h]; exact beq_eq_false_iff_ne.mpr (by omega)
          · rw [decide_eq_false h]; exact beq_iff_eq.mpr (by omega)
        rw [this]
        cases (z.1.f0.f0 == 13) <;> cases (n.f0 == 11) <;> cases decide (1 < suf.length) <;> rfl
      have hdd : (decide (deep + 1 + z.2.2.2 ≤ 40) && decide (deep + (maxD l + 1) ≤ 40)) = decide (deep + (max z.2.2.2 (maxD l) + 1) ≤ 40) := by
        rw [Bool.eq_iff_iff]; simp only [Bool.and_eq_true, decide_eq_true_eq]; omega
      rw [← hdd]
      unfold kidG kidS
      rw [h13]
      generalize decide (deep + 1 + z.2.2.2 ≤ 40) = a
      generalize decide (deep + (maxD l + 1) ≤ 40) = b
      generalize (!(z.1.f0.f0 == 13) || (n.f0 == 11 && decide (1 < suf.length))) = c
      generalize constB z.1 = d
      generalize (l.map (·.1)).all constB = e
      generalize z.2.1 = g
      generalize (n.f0 == 12) = h
      generalize (l.all fun z => z.2.1 && (!(z.1.f0.f0 == 13) || (n.f0 == 11 && decide (1 < suf.length)))) = i
      revert a b c d e g h i; decide
  exact key suf (fun _ h => h)
/-- A tree from a place on: what the reference reads there and says of it, and what the program says. -/
theorem tree_is (l : List S67) (hl : l.length ≤ 300) (hs : ∀ x ∈ l, x.f1.size ≤ 1048576) : ∀ (D : Nat) (deep i : Int), deep + D = 41 → 0 ≤ deep → 0 ≤ i →
    (TakeIs l i deep failE (-1) ∧ gTree l (D + 19) i (deep + 1) = some (-1)) ∨
    ∃ z j, TakeIs l i deep z.1 j ∧ KidAt l D i j z ∧ gTree l (D + 19) i (deep + 1) = some (if (z.2.1 && decide (deep + z.2.2.2 ≤ 40)) = true then j else -1)
  | 0, deep, i, h, hd, hi => by
    refine .inl ⟨⟨2, fun K hK => ?_⟩, ?_⟩
    · obtain ⟨K, rfl⟩ : ∃ m, K = m + 2 := ⟨K - 2, by omega⟩
      rw [spec_l4Take.f]
      by_cases c1 : i ≥ (l.length : Int)
      · rw [if_pos c1, spec_l4Take.j0, if_pos rfl]; rfl
      · rw [if_neg c1, if_pos (by omega), spec_l4Take.j0, if_pos rfl]; rfl
    · rw [gTree]
      by_cases c1 : i ≥ (l.length : Int)
      · rw [if_pos c1]
      · rw [if_neg c1, if_pos (by omega)]
  | D + 1, deep, i, h, hd, hi => by
    by_cases c1 : i ≥ (l.length : Int)
    · refine .inl ⟨⟨2, fun K hK => ?_⟩, ?_⟩
      · obtain ⟨K, rfl⟩ : ∃ m, K = m + 2 := ⟨K - 2, by omega⟩
        rw [spec_l4Take.f, if_pos c1, spec_l4Take.j0, if_pos rfl]; rfl
      · rw [show D + 1 + 19 = (D + 19) + 1 from by omega, gTree, if_pos c1]
    have hmem : rd_T67 l i ∈ l := by
      unfold rd_T67; rw [List.getD_eq_getElem?_getD, List.getElem?_eq_getElem (by omega : i.toNat < l.length)]; exact List.getElem_mem _
    obtain ⟨g1, g2⟩ := goodN_is (rd_T67 l i) (hs _ hmem)
    have hG : gTree l (D + 1 + 19) i (deep + 1) = if deep + 1 > 40 then some (-1) else if nodeV (rd_T67 l i) = true then gKids (fun j => gTree l (D + 19) j (deep + 1 + 1)) l (rd_T67 l i).f0 (rd_T67 l i).f5 (rd_T67 l i).f5.toNat (i + 1) else some (-1) := by
      rw [show D + 1 + 19 = (D + 19) + 1 from by omega, gTree, if_neg c1, if_neg (by omega : ¬ i < 0), g1]
      rfl
    have hT : ∀ K, spec_l4Take.f (K + 2) l i deep = if (rd_T67 l i).f5 < 0 ∨ (rd_T67 l i).f5 > 100 then some (flatE failE (-1)) else tkL K l (wrap64 (i + 1)) deep 0 (rd_T67 l i) [] := by
      intro K
      rw [spec_l4Take.f, if_neg c1, if_neg (by omega : ¬ deep > 40), if_pos hi, if_pos (by omega : i < (l.length : Int))]
      by_cases k1 : (rd_T67 l i).f5 < 0
      · rw [if_pos k1, if_pos (.inl k1), spec_l4Take.j0, if_pos rfl]; rfl
      · rw [if_neg k1, spec_l4Take.j0]
        by_cases k2 : (rd_T67 l i).f5 > 100
        · rw [decide_eq_true k2, if_pos rfl, if_pos (.inr k2)]; rfl
        · rw [decide_eq_false k2, if_neg (by decide), if_neg (show ¬ ((rd_T67 l i).f5 < 0 ∨ (rd_T67 l i).f5 > 100) from fun h => h.elim k1 k2), if_pos hi, if_pos (by omega : i < (l.length : Int))]; rfl
    have hw : wrap64 (i + 1) = i + 1 := w_id (by omega) (by omega)
    rw [hw] at hT
    generalize hn : rd_T67 l i = n at *
    have hkid : nodeV n = true → 0 ≤ n.f5 ∧ n.f5 ≤ 100 := fun hv => goodN_kids (by rw [g1, hv])
    by_cases kk : n.f5 < 0 ∨ n.f5 > 100
    · refine .inl ⟨⟨2, fun K hK => ?_⟩, ?_⟩
      · obtain ⟨K, rfl⟩ : ∃ m, K = m + 2 := ⟨K - 2, by omega⟩
        rw [hT, if_pos kk]
      · rw [hG]
        by_cases c2 : deep + 1 > 40
        · rw [if_pos c2]
        · rw [if_neg c2, if_neg (fun hv => by have := hkid hv; omega)]
    have kn0 : 0 ≤ n.f5 := by omega
    have kn1 : n.f5 ≤ 100 := by omega
    rcases kids_is l hl n kn0 kn1 D (by omega) deep hd (by omega) (fun j => gTree l (D + 19) j (deep + 1 + 1)) (fun i hi => tree_is l hl hs D (deep + 1) i (by omega) (by omega) hi) n.f5.toNat [] (i + 1) (by simp; omega) (by omega) (by omega) with ⟨⟨K1, h1⟩, gk⟩ | ⟨suf, j, s1, ⟨K1, h1⟩, s3, s4, s5, s6, s7, gk⟩
    · refine .inl ⟨⟨K1 + 2, fun K hK => ?_⟩, ?_⟩
      · obtain ⟨K, rfl⟩ : ∃ m, K = m + 2 := ⟨K - 2, by omega⟩
        rw [hT, if_neg kk]; exact h1 K (by omega)
      · rw [hG, gk]
        repeat' split
        all_goals rfl
    · have hlen : (suf.length : Int) = n.f5 := by omega
      have hjl : j ≤ (l.length : Int) := by
        by_cases h0 : n.f5.toNat = 0
        · rw [s5 h0]; omega
        · exact (s4 (by omega)).1
      have hm100 : ∀ z ∈ suf, 1 ≤ z.2.2.2 ∧ z.2.2.2 ≤ 100 := fun z hz => by have := s7 z hz; omega
      have hmd := maxD_le suf (D : Int) (by omega) (fun z hz => (s7 z hz).2.2.2)
      obtain ⟨K2, h2⟩ := szL_is n suf [] 1 0 (fun z hz => by have := s7 z hz; exact ⟨this.1, this.2.1, this.2.2.1, by omega⟩) (by omega) (by omega) (by omega) (by omega) (by simp; omega)
      refine .inr ⟨(⟨n, suf.map (·.1)⟩, nodeV n && ((!(n.f0 == 12) || (suf.map (·.1)).all constB) && suf.all (kidS n suf.length)), j - i, maxD suf + 1), j, ⟨K1 + 2, fun K hK => ?_⟩, ⟨⟨K2 + 1, fun K hK many => ?_⟩, rfl, by omega, hjl, by show 1 ≤ maxD suf + 1; omega, by show maxD suf + 1 ≤ ((D + 1 : Nat) : Int); omega, hn.symm, by omega, fun hv => ?_, by show ((suf.map (·.1)).length : Int) = n.f5; rw [List.length_map]; exact hlen, fun h0 => ?_⟩, ?_⟩
      · obtain ⟨K, rfl⟩ : ∃ m, K = m + 2 := ⟨K - 2, by omega⟩
        rw [hT, if_neg kk]; exact h1 K (by omega)
      · obtain ⟨K, rfl⟩ : ∃ m, K = m + 1 := ⟨K - 1, by omega⟩
        have h2' := h2 K (by omega)
        unfold szL at h2'
        unfold szE
        rw [spec_l4Size.f, g2]
        simp only [Option.bind_some]
        rw [show (n.f5 == ((suf.map (·.1)).length : Int)) = true from beq_iff_eq.mpr (by rw [List.length_map]; omega), Bool.true_and]
        simp only [List.nil_append, List.length_nil, Nat.zero_add, Int.ofNat_zero] at h2'
        cases hc : ((!(n.f0 == 13) || many) && (nodeV n && (!(n.f0 == 12) || (suf.map (·.1)).all constB)))
        · rw [if_neg (by decide), if_neg]
          intro hh
          obtain ⟨ha, hb⟩ := Bool.and_eq_true_iff.mp hh
          obtain ⟨ha1, ha2⟩ := Bool.and_eq_true_iff.mp ha
          obtain ⟨ha3, _⟩ := Bool.and_eq_true_iff.mp ha2
          rw [hb, ha1, ha3] at hc; cases hc
        · rw [if_pos rfl]
          obtain ⟨ha, hb⟩ := Bool.and_eq_true_iff.mp hc
          obtain ⟨hb1, hb2⟩ := Bool.and_eq_true_iff.mp hb
          refine h2'.trans ?_
          rw [hb1, hb2, ha, Bool.true_and, Bool.true_and, Bool.and_true]
          by_cases hk : suf.all (kidS n suf.length) = true
          · rw [if_pos hk, if_pos hk]
            congr 2
            · omega
            · congr 1; omega
          · rw [if_neg hk, if_neg hk]
      · exact (Bool.and_eq_true_iff.mp hv).1
      · have hsl : 0 < suf.length := by rw [List.length_map] at h0; exact h0
        obtain ⟨_, p2, p3⟩ := s4 (by omega)
        refine ⟨?_, p2⟩
        cases suf with
        | nil => simp at hsl
        | cons y ys =>
          have := p3 y (by simp)
          rw [← this]
          show (rd_T70 (y.1 :: ys.map (·.1)) 0).f0 = y.1.f0
          rfl
      · rw [hG]
        by_cases c2 : deep + 1 > 40
        · rw [if_pos c2, if_neg]
          intro hh
          have := of_decide_eq_true (Bool.and_eq_true_iff.mp hh).2
          have h3 : deep + (maxD suf + 1) ≤ 40 := this
          omega
        · rw [if_neg c2, gk, all_split n deep (by omega) suf hlen hm100]
          cases nodeV n
          · rfl
          · rw [if_pos rfl, Bool.true_and, Bool.and_assoc]

/-! loops, by what they come to in the end ('Ev') -/
theorem ev_down {ρ : Type} {F : Nat → Int → Option ρ} {r : ρ} (n : Nat) (hs : ∀ i : Nat, i < n → Ev (fun k => F k ((i + 1 : Nat) : Int)) r → Ev (fun k => F k (i : Int)) r)
    (he : Ev (fun k => F k (n : Int)) r) : Ev (fun k => F k 0) r := by
  have h : ∀ d i : Nat, i + d = n → Ev (fun k => F k (i : Int)) r := by
    intro d
    induction d with
    | zero => intro i hi; obtain rfl : i = n := by omega
              exact he
    | succ d ih => intro i hi; exact hs i (by omega) (ih (i + 1) (by omega))
  exact h n 0 (by omega)
theorem ev_ex {ρ : Type} {F : Nat → Int → Option ρ} (n : Nat) (hs : ∀ i : Nat, i < n → (∃ r, Ev (fun k => F k ((i + 1 : Nat) : Int)) r) → ∃ r, Ev (fun k => F k (i : Int)) r)
    (he : ∃ r, Ev (fun k => F k (n : Int)) r) : ∃ r, Ev (fun k => F k 0) r := by
  have h : ∀ d i : Nat, i + d = n → ∃ r, Ev (fun k => F k (i : Int)) r := by
    intro d
    induction d with
    | zero => intro i hi; obtain rfl : i = n := by omega
              exact he
    | succ d ih => intro i hi; exact hs i (by omega) (ih (i + 1) (by omega))
  exact h n 0 (by omega)
theorem ev_to {α β : Type} {F : Nat → List β → Int → Option (List β)} (l : List α) (h : α → β) (z : β)
    (hs : ∀ (acc : List β) (i : Nat) (hi : i < l.length) (r : List β), acc.length = l.length → Ev (fun k => F k (acc.set i (h l[i])) ((i + 1 : Nat) : Int)) r → Ev (fun k => F k acc (i : Int)) r)
    (he : ∀ acc : List β, Ev (fun k => F k acc (l.length : Int)) acc) : Ev (fun k => F k (List.replicate l.length z) 0) (l.map h) := by
  have g : ∀ (d i : Nat) (acc : List β), i + d = l.length → acc.length = l.length → (∀ j : Nat, j < i → acc[j]? = (l.map h)[j]?) → Ev (fun k => F k acc (i : Int)) (l.map h) := by
    intro d
    induction d with
    | zero =>
      intro i acc hi hl hp
      obtain rfl : i = l.length := by omega
      have e : acc = l.map h := by
        refine List.ext_getElem? fun j => ?_
        by_cases hj : j < l.length
        · exact hp j hj
        · rw [List.getElem?_eq_none (by omega), List.getElem?_eq_none (by rw [List.length_map]; omega)]
      have := he acc
      rw [e] at this ⊢; exact this
    | succ d ih =>
      intro i acc hi hl hp
      refine hs acc i (by omega) _ hl (ih (i + 1) _ (by omega) (by rw [List.length_set]; exact hl) fun j hj => ?_)
      rw [List.getElem?_set]
      by_cases e : i = j
      · subst e
        rw [if_pos rfl, if_pos (by omega), List.getElem?_map, List.getElem?_eq_getElem (by omega)]; rfl
      · rw [if_neg e]; exact hp j (by omega)
  exact g l.length 0 _ (by omega) List.length_replicate (fun j hj => absurd hj (by omega))
theorem ev_sz {α : Type} {F : Nat → Int → Int → Option Int} (l : List α) (B : α → Prop)
    (hs : ∀ (i : Nat) (hi : i < l.length) (left : Int), 0 ≤ left → left ≤ 1048576 →
      Ev (fun k => F k left (i : Int)) (-1) ∨ (∃ left', 0 ≤ left' ∧ left' ≤ left ∧ B l[i] ∧ ∀ t, Ev (fun k => F k left' ((i + 1 : Nat) : Int)) t → Ev (fun k => F k left (i : Int)) t))
    (he : ∀ left, Ev (fun k => F k left (l.length : Int)) left) (left : Int) (h0 : 0 ≤ left) (h1 : left ≤ 1048576) :
    Ev (fun k => F k left 0) (-1) ∨ ∃ t, 0 ≤ t ∧ t ≤ left ∧ Ev (fun k => F k left 0) t ∧ ∀ x ∈ l, B x := by
  have g : ∀ (d i : Nat) (left : Int), i + d = l.length → 0 ≤ left → left ≤ 1048576 → Ev (fun k => F k left (i : Int)) (-1) ∨ ∃ t, 0 ≤ t ∧ t ≤ left ∧ Ev (fun k => F k left (i : Int)) t ∧ ∀ j (hj : j < l.length), i ≤ j → B l[j] := by
    intro d
    induction d with
    | zero =>
      intro i left hi h0 h1
      obtain rfl : i = l.length := by omega
      exact .inr ⟨left, h0, Int.le_refl _, he left, fun j hj hij => absurd hj (by omega)⟩
    | succ d ih =>
      intro i left hi h0 h1
      rcases hs i (by omega) left h0 h1 with h | ⟨left', g0, g1, hB, hk⟩
      · exact .inl h
      · rcases ih (i + 1) left' (by omega) g0 (by omega) with h | ⟨t, t0, t1, ht, hb⟩
        · exact .inl (hk _ h)
        · refine .inr ⟨t, t0, by omega, hk _ ht, fun j hj hij => ?_⟩
          by_cases e : i = j
          · subst e; exact hB
          · exact hb j hj (by omega)
  rcases g l.length 0 left (by omega) h0 h1 with h | ⟨t, t0, t1, ht, hb⟩
  · exact .inl h
  · refine .inr ⟨t, t0, t1, ht, fun x hx => ?_⟩
    obtain ⟨j, hj, rfl⟩ := List.getElem_of_mem hx
    exact hb j hj (Nat.zero_le _)
theorem getD_at {α : Type} (l : List α) (z : α) (i : Nat) (h : i < l.length) : l.getD ((i : Int)).toNat z = l[i] := by
  rw [Int.toNat_natCast, List.getD_eq_getElem?_getD, List.getElem?_eq_getElem h]; rfl
theorem ev_all {α : Type} {F : Nat → Int → Option Bool} (l : List α) (p : α → Bool) (b : Bool)
    (hs : ∀ (i : Nat) (hi : i < l.length) (r : Bool), p l[i] = true → Ev (fun k => F k ((i + 1 : Nat) : Int)) r → Ev (fun k => F k (i : Int)) r)
    (hf : ∀ (i : Nat) (hi : i < l.length) (r : Bool), p l[i] = false → Ev (fun k => F k ((i + 1 : Nat) : Int)) r → Ev (fun k => F k (i : Int)) false)
    (he : Ev (fun k => F k (l.length : Int)) b) : Ev (fun k => F k 0) (l.all p && b) := by
  have h : ∀ d i : Nat, i + d = l.length → Ev (fun k => F k (i : Int)) ((l.drop i).all p && b) := by
    intro d
    induction d with
    | zero =>
      intro i hi; obtain rfl : i = l.length := by omega
      rw [List.drop_length]; exact he
    | succ d ih =>
      intro i hi
      have hlt : i < l.length := by omega
      rw [List.drop_eq_getElem_cons hlt, List.all_cons]
      cases hp : p l[i]
      · exact hf i hlt _ hp (ih (i + 1) (by omega))
      · exact hs i hlt _ hp (ih (i + 1) (by omega))
  exact h l.length 0 (by omega)

/-- Is a formula a good one? Both sides say the same, in the end. -/
theorem form_same (l : List S67) (hs : ∀ x ∈ l, x.f1.size ≤ 1048576) (hlen : l.length ≤ 1048576) : ∃ b, Ev (fun k => spec_GoodFormula.f k l) b ∧ Ev (fun k => impl_GoodFormula.f k l) b := by
  by_cases h0 : (l.length : Int) = 0
  · refine ⟨false, ⟨1, fun k hk => ?_⟩, ⟨0, fun k hk => ?_⟩⟩
    · obtain ⟨k, rfl⟩ : ∃ m, k = m + 1 := ⟨k - 1, by omega⟩
      show spec_GoodFormula.f (k + 1) l = _
      rw [spec_GoodFormula.f, spec_l4Read.f, if_pos h0, spec_l4Read.j0, if_pos rfl]; rfl
    · show impl_GoodFormula.f k l = _
      rw [impl_GoodFormula.f, if_neg (by omega)]
  by_cases h3 : (l.length : Int) > 300
  · refine ⟨false, ⟨1, fun k hk => ?_⟩, ⟨0, fun k hk => ?_⟩⟩
    · obtain ⟨k, rfl⟩ : ∃ m, k = m + 1 := ⟨k - 1, by omega⟩
      show spec_GoodFormula.f (k + 1) l = _
      rw [spec_GoodFormula.f, spec_l4Read.f, if_neg h0, decide_eq_true h3, spec_l4Read.j0, if_pos rfl]; rfl
    · show impl_GoodFormula.f k l = _
      rw [impl_GoodFormula.f, if_pos (by omega), if_neg (by omega)]
  have hI : ∀ k, impl_GoodFormula.f k l = if (rd_T67 l 0).f0 = 13 then some false else (gTree l 60 0 1).bind fun t => some (t == (l.length : Int)) := by
    intro k
    have e : impl_goodTree.f k l 0 1 = gTree l 60 0 1 := by unfold impl_goodTree.f; rw [if_pos ⟨by omega, hlen⟩]
    rw [impl_GoodFormula.f, if_pos (by omega), if_pos (by omega), if_pos (by omega), e]
  have hS : ∀ k, spec_GoodFormula.f (k + 1) l = ((spec_l4Take.f k l 0 0).bind fun bt => (if bt.2.2.2.2.2.2.2.2.2.2.2.2.2.2.2 = (l.length : Int) then (spec_l4Good.f k bt.1 bt.2.1 bt.2.2.1 bt.2.2.2.1 bt.2.2.2.2.1 bt.2.2.2.2.2.1 bt.2.2.2.2.2.2.1 bt.2.2.2.2.2.2.2.1 bt.2.2.2.2.2.2.2.2.1 bt.2.2.2.2.2.2.2.2.2.1 bt.2.2.2.2.2.2.2.2.2.2.1 bt.2.2.2.2.2.2.2.2.2.2.2.1 bt.2.2.2.2.2.2.2.2.2.2.2.2.1 bt.2.2.2.2.2.2.2.2.2.2.2.2.2.1 bt.2.2.2.2.2.2.2.2.2.2.2.2.2.2.1) else some false)) := by
    intro k
    rw [spec_GoodFormula.f, spec_l4Read.f, if_neg h0, decide_eq_false h3, spec_l4Read.j0, if_neg (by decide)]
    cases ht : spec_l4Take.f k l 0 0 with
    | none => rfl
    | some bt =>
      simp only [Option.bind_some]
      by_cases hq : bt.2.2.2.2.2.2.2.2.2.2.2.2.2.2.2 = (l.length : Int)
      · rw [if_pos hq, if_pos hq]
        cases hg : spec_l4Good.f k bt.1 bt.2.1 bt.2.2.1 bt.2.2.2.1 bt.2.2.2.2.1 bt.2.2.2.2.2.1 bt.2.2.2.2.2.2.1 bt.2.2.2.2.2.2.2.1 bt.2.2.2.2.2.2.2.2.1 bt.2.2.2.2.2.2.2.2.2.1 bt.2.2.2.2.2.2.2.2.2.2.1 bt.2.2.2.2.2.2.2.2.2.2.2.1 bt.2.2.2.2.2.2.2.2.2.2.2.2.1 bt.2.2.2.2.2.2.2.2.2.2.2.2.2.1 bt.2.2.2.2.2.2.2.2.2.2.2.2.2.2.1 with
        | none => rfl
        | some b => rfl
      · rw [if_neg hq, if_neg hq]; rfl
  rcases tree_is l (by omega) hs 41 0 0 (by omega) (by omega) (by omega) with ⟨⟨K1, h1⟩, g1⟩ | ⟨z, j, ⟨K1, h1⟩, hz, g1⟩
  · refine ⟨false, ⟨K1 + 1, fun k hk => ?_⟩, ⟨0, fun k hk => ?_⟩⟩
    · obtain ⟨k, rfl⟩ : ∃ m, k = m + 1 := ⟨k - 1, by omega⟩
      show spec_GoodFormula.f (k + 1) l = _
      rw [hS, h1 k (by omega)]
      simp only [Option.bind_some, flatE]
      rw [if_neg (by omega)]
    · show impl_GoodFormula.f k l = _
      have g1' : gTree l 60 0 1 = some (-1) := g1
      rw [hI, g1']
      by_cases h13 : (rd_T67 l 0).f0 = 13
      · rw [if_pos h13]
      · rw [if_neg h13]
        simp only [Option.bind_some]
        rw [show ((-1 : Int) == (l.length : Int)) = false from beq_eq_false_iff_ne.mpr (by omega)]
  · obtain ⟨⟨K2, h2⟩, zc, zj, zl, zd, zd2, z0, _, _, _, _⟩ := hz
    refine ⟨decide (j = (l.length : Int)) && ((z.2.1 && !(z.1.f0.f0 == 13)) && decide (z.2.2.2 ≤ 40)), ⟨K1 + K2 + 1, fun k hk => ?_⟩, ⟨0, fun k hk => ?_⟩⟩
    · obtain ⟨k, rfl⟩ : ∃ m, k = m + 1 := ⟨k - 1, by omega⟩
      show spec_GoodFormula.f (k + 1) l = _
      rw [hS, h1 k (by omega)]
      simp only [Option.bind_some, flatE]
      by_cases hj : j = (l.length : Int)
      · rw [if_pos hj, decide_eq_true hj, Bool.true_and]
        have h2' := h2 k (by omega) false
        unfold szE at h2'
        rw [spec_l4Good.f, h2', Bool.or_false]
        cases hc : (z.2.1 && !(z.1.f0.f0 == 13))
        · rfl
        · rw [if_pos rfl]
          simp only [Option.bind_some, if_true]
          rw [if_pos (by omega), Bool.true_and]
      · rw [if_neg hj, decide_eq_false hj]; rfl
    · show impl_GoodFormula.f k l = _
      have g1' : gTree l 60 0 1 = some (if (z.2.1 && decide (0 + z.2.2.2 ≤ 40)) = true then j else -1) := g1
      rw [hI, g1']
      have h0' : z.1.f0.f0 = (rd_T67 l 0).f0 := by rw [z0]
      by_cases h13 : (rd_T67 l 0).f0 = 13
      · rw [if_pos h13, h0', h13]; simp
      · rw [if_neg h13, h0', show ((rd_T67 l 0).f0 == 13) = false from beq_eq_false_iff_ne.mpr h13]
        simp only [Option.bind_some, Bool.not_false, Bool.and_true, Int.zero_add]
        congr 1
        cases hc : (z.2.1 && decide (z.2.2.2 ≤ 40))
        · rw [if_neg (by decide), Bool.and_false]; exact beq_eq_false_iff_ne.mpr (by omega)
        · rw [if_pos rfl, Bool.and_true]
          by_cases hj : j = (l.length : Int)
          · rw [decide_eq_true hj]; exact beq_iff_eq.mpr hj
          · rw [decide_eq_false hj]; exact beq_eq_false_iff_ne.mpr hj

/-! the formulas of the laws, as the program's -/
def toN (x : S64) : S67 := ⟨x.f0, x.f1, ⟨x.f2.f0, x.f2.f1, x.f2.f2⟩, ⟨x.f3.f0, x.f3.f1, x.f3.f2, x.f3.f3⟩, ⟨x.f4.f0, x.f4.f1, x.f4.f2, x.f4.f3⟩, x.f5⟩
theorem rdL_at (L : List S64) (i : Nat) (h : i < L.length) : rd_T64 L (i : Int) = L[i] := by
  unfold rd_T64
  rw [Int.toNat_natCast, List.getD_eq_getElem?_getD, List.getElem?_eq_getElem h]; rfl
theorem rdN_at (L : List S67) (i : Nat) (h : i < L.length) : rd_T67 L (i : Int) = L[i] := by
  unfold rd_T67
  rw [Int.toNat_natCast, List.getD_eq_getElem?_getD, List.getElem?_eq_getElem h]; rfl
theorem szNodeS_ev (l : List S64) (q : QL Q64 l) : Ev (fun k => laws_szNodeS.f k l 1048576) (-1) ∨ ∃ t, 0 ≤ t ∧ Ev (fun k => laws_szNodeS.f k l 1048576) t ∧ l.length ≤ 1048576 ∧ ∀ x ∈ l, x.f1.size ≤ 1048576 := by
  unfold laws_szNodeS.f
  have hq := q.1
  have w := wrap_id (x := 1048576 - (l.length : Int)) (by omega) (by omega)
  by_cases h : (1048576 : Int) - (l.length : Int) < 0
  · simp only [w, if_pos h]; exact .inl (Ev.now (-1))
  · simp only [w, if_neg h]
    have hx : ∀ x ∈ l, x.f1.size ≤ 9223372036854775807 := fun x hx => (q.2 x hx).2.1
    have key := ev_sz (F := fun k left i => laws_szNodeS.l0 k l left i) l (fun x => x.f1.size ≤ 1048576) (by
      intro i hi left h0 h1
      have hb := hx _ (List.getElem_mem hi)
      have w2 := wrap_id (x := left - ((l[i]).f1.size : Int)) (by omega) (by omega)
      have w3 := wrap_id (x := (i : Int) + 1) (by omega) (by omega)
      by_cases hneg : left - ((l[i]).f1.size : Int) < 0
      · left
        refine Ev.step (f := fun _ => some (-1)) (fun k => ?_) (Ev.now (-1))
        show laws_szNodeS.l0 (k + 1) l left (i : Int) = _
        rw [laws_szNodeS.l0, if_pos (by omega), if_pos (by omega), rdL_at l i hi, laws_szNode.f, w2, if_pos hneg]
        rfl
      · right
        refine ⟨left - ((l[i]).f1.size : Int), by omega, by omega, by omega, fun t ht => ?_⟩
        refine Ev.step (fun k => ?_) ht
        show laws_szNodeS.l0 (k + 1) l left (i : Int) = _
        rw [laws_szNodeS.l0, if_pos (by omega), if_pos (by omega), rdL_at l i hi, laws_szNode.f, w2, if_neg hneg]
        simp only [Option.bind_some]
        rw [if_neg hneg, w3]; rfl) (by
      intro left
      refine Ev.step (f := fun _ => some left) (fun k => ?_) (Ev.now left)
      show laws_szNodeS.l0 (k + 1) l left (l.length : Int) = _
      rw [laws_szNodeS.l0, if_neg (by omega)]) (1048576 - (l.length : Int)) (by omega) (by omega)
    rcases key with hh | ⟨t, t0, t1, ht, hb⟩
    · exact .inl hh
    · exact .inr ⟨t, t0, ht, by omega, hb⟩
theorem toNodeS_ev (l : List S64) (hl : l.length ≤ 1048576) : Ev (fun k => laws_toNodeS.f k l) (l.map toN) := by
  refine Ev.congr (f := fun k => laws_toNodeS.l0 k l (List.replicate l.length z67) 0) (fun k => by rw [laws_toNodeS.f, if_pos (by omega), if_pos (by omega), Int.toNat_natCast]) ?_
  refine ev_to (F := fun k acc i => laws_toNodeS.l0 k l acc i) l toN z67 ?_ ?_
  · intro acc i hi r ha ht
    refine Ev.step (fun k => ?_) ht
    show laws_toNodeS.l0 (k + 1) l acc (i : Int) = _
    rw [laws_toNodeS.l0, if_pos (by omega), if_pos (by omega), rdL_at l i hi, laws_toNode.f, laws_toDec.f, laws_toRef.f, laws_toRef.f]
    simp only [Option.bind_some]
    rw [if_pos (by omega), Int.toNat_natCast, wrap_id (x := (i : Int) + 1) (by omega) (by omega)]
    rfl
  · intro acc
    refine Ev.step (f := fun _ => some acc) (fun k => ?_) (Ev.now acc)
    show laws_toNodeS.l0 (k + 1) l acc (l.length : Int) = _
    rw [laws_toNodeS.l0, if_neg (by omega)]
theorem eqNode_refl (x : S67) : laws_eqNode.f x.f0 x.f1 x.f2.f0 x.f2.f1 x.f2.f2 x.f3.f0 x.f3.f1 x.f3.f2 x.f3.f3 x.f4.f0 x.f4.f1 x.f4.f2 x.f4.f3 x.f5 x.f0 x.f1 x.f2.f0 x.f2.f1 x.f2.f2 x.f3.f0 x.f3.f1 x.f3.f2 x.f3.f3 x.f4.f0 x.f4.f1 x.f4.f2 x.f4.f3 x.f5 = some true := by
  unfold laws_eqNode.f laws_eqDec.f laws_eqRef.f
  simp
theorem eqNodeS_refl (l : List S67) (hl : l.length ≤ 1048576) : Ev (fun k => laws_eqNodeS.f k l l) true := by
  refine Ev.congr (f := fun k => laws_eqNodeS.l0 k l l 0) (fun k => by rw [laws_eqNodeS.f, if_pos rfl]) ?_
  refine ev_down (F := fun k i => laws_eqNodeS.l0 k l l i) l.length ?_ ?_
  · intro i hi ht
    refine Ev.step (fun k => ?_) ht
    show laws_eqNodeS.l0 (k + 1) l l (i : Int) = _
    rw [laws_eqNodeS.l0, if_pos (by omega), if_pos (by omega), if_pos (by omega), eqNode_refl]
    simp only [Option.bind_some, if_true]
    rw [wrap_id (x := (i : Int) + 1) (by omega) (by omega)]; rfl
  · refine Ev.step (f := fun _ => some true) (fun k => ?_) (Ev.now true)
    show laws_eqNodeS.l0 (k + 1) l l (l.length : Int) = _
    rw [laws_eqNodeS.l0, if_neg (by omega)]
theorem toN_size (l : List S64) (h : ∀ x ∈ l, x.f1.size ≤ 1048576) : ∀ x ∈ l.map toN, x.f1.size ≤ 1048576 := by
  intro x hx
  obtain ⟨y, hy, rfl⟩ := List.mem_map.1 hx
  exact h y hy

/-- A mark's text. -/
def mkT (x : Int) : ByteArray := (laws_markText.f 40 x).getD ⟨#[]⟩
def markRow : List ByteArray → Int → List ByteArray
  | [], _ => []
  | _ :: l, a => mkT a :: markRow l (a + 1)
theorem ms_text_l0 : ∀ (d : Nat) (x : Int) (s : ByteArray), x < 10 ^ d → s.size + d + 1 ≤ 1000 → x ≤ 4000000000000 → ∃ t, ∀ k, d + 1 ≤ k → laws_markText.l0 k x s = some t
  | 0, x, s, h, hs, hx => by
    refine ⟨(⟨#[109]⟩ : ByteArray) ++ s, fun k hk => ?_⟩
    obtain ⟨k, rfl⟩ : ∃ m, k = m + 1 := ⟨k - 1, by omega⟩
    simp only [Int.pow_zero] at h
    rw [laws_markText.l0, if_neg (by omega), if_pos (by omega)]
  | d + 1, x, s, h, hs, hx => by
    by_cases h0 : x > 0
    · have w1 : wrap64 (Int.tdiv x 10) = x / 10 := by rw [Int.tdiv_eq_ediv_of_nonneg (by omega)]; unfold wrap64; omega
      have hp : x / 10 < 10 ^ d := by
        rw [Int.pow_succ] at h
        exact Int.ediv_lt_of_lt_mul (by omega) h
      have hsz : ∀ y : Int, (strOfNums [y]).size = 1 := fun y => rfl
      obtain ⟨t, ht⟩ := ms_text_l0 d (x / 10) (strOfNums [(wrap64 (48 + (Int.tmod x 10))) % 256] ++ s) hp (by rw [ByteArray.size_append, hsz]; omega) (by omega)
      refine ⟨t, fun k hk => ?_⟩
      obtain ⟨k, rfl⟩ : ∃ m, k = m + 1 := ⟨k - 1, by omega⟩
      rw [laws_markText.l0, if_pos h0]
      simp only [Option.bind_some]
      rw [if_pos (by rw [hsz]; omega), w1]
      exact ht k (by omega)
    · refine ⟨(⟨#[109]⟩ : ByteArray) ++ s, fun k hk => ?_⟩
      obtain ⟨k, rfl⟩ : ∃ m, k = m + 1 := ⟨k - 1, by omega⟩
      rw [laws_markText.l0, if_neg h0, if_pos (by omega)]
theorem ms_text (x : Int) (hx : x ≤ 4000000000000) (k : Nat) (hk : 40 ≤ k) : laws_markText.f k x = some (mkT x) := by
  have h : ∃ t, ∀ k, 40 ≤ k → laws_markText.f k x = some t := by
    unfold laws_markText.f
    by_cases h : x ≤ 0
    · exact ⟨_, fun k _ => by rw [if_pos h]⟩
    · obtain ⟨t, ht⟩ := ms_text_l0 13 x (⟨#[]⟩ : ByteArray) (by omega) (by show 0 + 13 + 1 ≤ 1000; omega) hx
      exact ⟨t, fun k hk => by rw [if_neg h]; exact ht k (by omega)⟩
  obtain ⟨t, ht⟩ := h
  rw [ht k hk]
  unfold mkT
  rw [ht 40 (Nat.le_refl _)]; rfl
theorem ms_w {x : Int} (h1 : -9223372036854775808 ≤ x) (h2 : x ≤ 9223372036854775807) : wrap64 x = x := by unfold wrap64; omega
theorem ms_row : ∀ (rest pre : List ByteArray) (i : Nat) (a : Int), pre.length = i → i + rest.length ≤ 4000000000000 → 1 ≤ a → a + (rest.length : Int) ≤ 4000000000000 → ∃ K, ∀ k, K ≤ k → laws_markStringS.l0 k (pre ++ rest) a (i : Int) = some (a + (rest.length : Int), pre ++ markRow rest a)
  | [], pre, i, a, hp, hi, h1, h2 => by
    refine ⟨1, fun k hk => ?_⟩
    obtain ⟨k, rfl⟩ : ∃ m, k = m + 1 := ⟨k - 1, by omega⟩
    rw [laws_markStringS.l0, if_neg (by rw [List.append_nil]; omega)]; simp [markRow]
  | r :: rest, pre, i, a, hp, hi, h1, h2 => by
    simp only [List.length_cons] at hi h2
    obtain ⟨K, hK⟩ := ms_row rest (pre ++ [mkT a]) (i + 1) (a + 1) (by simp; omega) (by omega) (by omega) (by omega)
    refine ⟨K + 41, fun k hk => ?_⟩
    obtain ⟨k, rfl⟩ : ∃ m, k = m + 1 := ⟨k - 1, by omega⟩
    have hset : (pre ++ r :: rest).set i (mkT a) = pre ++ [mkT a] ++ rest := by
      rw [List.set_append_right _ _ (by omega), hp, Nat.sub_self]; simp
    have hl : ((pre ++ r :: rest).length : Int) = (i : Int) + ((rest.length : Int) + 1) := by simp; omega
    rw [laws_markStringS.l0, if_pos (by omega), ms_text a (by omega) k (by omega)]
    simp only [Option.bind_some]
    rw [if_pos (by omega), Int.toNat_natCast, hset, ms_w (x := a + 1) (by omega) (by omega), ms_w (x := (i : Int) + 1) (by omega) (by omega)]
    have := hK k (by omega)
    rw [show (((i + 1 : Nat)) : Int) = (i : Int) + 1 from rfl] at this
    rw [this, List.length_cons, show a + 1 + (rest.length : Int) = a + ((rest.length + 1 : Nat) : Int) from by omega]
    simp [markRow]
theorem eqStringS_ev (l : List ByteArray) (hl : l.length ≤ 30000) : Ev (fun k => laws_eqStringS.f k l l) true := by
  unfold laws_eqStringS.f
  refine Ev.congr (f := fun k => laws_eqStringS.l0 k l l 0) (fun k => by rw [if_pos rfl]) ?_
  have g : ∀ (d i : Nat), i + d = l.length → Ev (fun k => laws_eqStringS.l0 k l l (i : Int)) true := by
    intro d
    induction d with
    | zero =>
      intro i hi
      refine Ev.step (f := fun _ => some true) (fun k => ?_) (Ev.now _)
      rw [laws_eqStringS.l0, if_neg (by omega)]
    | succ d ih =>
      intro i hi
      refine Ev.step (fun k => ?_) (ih (i + 1) (by omega))
      rw [laws_eqStringS.l0, if_pos (by omega), if_pos (by omega), if_pos (by omega), if_pos rfl, wrap_id (x := (i : Int) + 1) (by omega) (by omega)]; rfl
  exact g l.length 0 (by omega)
theorem heldRow : ∀ (rest pre : List ByteArray) (i : Nat) (a : Int), pre.length = i → i + rest.length ≤ 4000000000000 → 1 ≤ a → a + (rest.length : Int) ≤ 4000000000000 → Ev (fun k => laws_heldStringS.l0 k (pre ++ markRow rest a) a (i : Int)) (a + (rest.length : Int))
  | [], pre, i, a, hp, hi, h1, h2 => by
    refine Ev.step (f := fun _ => some (a + (([] : List ByteArray).length : Int))) (fun k => ?_) (Ev.now _)
    rw [laws_heldStringS.l0, if_neg (by simp [markRow]; omega)]; simp
  | r :: rest, pre, i, a, hp, hi, h1, h2 => by
    simp only [List.length_cons] at hi h2
    have ih := heldRow rest (pre ++ [mkT a]) (i + 1) (a + 1) (by simp; omega) (by omega) (by omega) (by omega)
    have e : pre ++ markRow (r :: rest) a = pre ++ [mkT a] ++ markRow rest (a + 1) := by simp [markRow]
    have hg : rdOf ByteArray.empty (pre ++ [mkT a] ++ markRow rest (a + 1)) (i : Int) = mkT a := by
      unfold rdOf
      rw [Int.toNat_natCast, List.getD_eq_getElem?_getD, List.getElem?_append_left (by simp; omega), List.getElem?_append_right (by omega), hp, Nat.sub_self]; rfl
    have hlen : (i : Int) < ((pre ++ [mkT a] ++ markRow rest (a + 1)).length : Int) := by simp; omega
    obtain ⟨K, hK⟩ := ih
    refine ⟨K + 41, fun k hk => ?_⟩
    obtain ⟨k, rfl⟩ : ∃ m, k = m + 1 := ⟨k - 1, by omega⟩
    simp only
    rw [e, laws_heldStringS.l0, if_pos hlen, if_pos (by omega), ms_text a (by omega) k (by omega)]
    simp only [Option.bind_some]
    rw [hg, if_pos rfl, wrap_id (x := a + 1) (by omega) (by omega), wrap_id (x := (i : Int) + 1) (by omega) (by omega)]
    have := hK k (by omega)
    simp only at this
    rw [show (((i + 1 : Nat)) : Int) = (i : Int) + 1 from rfl] at this
    rw [this, List.length_cons, show a + 1 + (rest.length : Int) = a + ((rest.length + 1 : Nat) : Int) from by omega]

theorem peel {α β : Type} {n : Nat} {v : List α} {F G : Nat → List α → Option β} (hv : v.length = n) (h : ∀ y : List α, y.length = n → ∃ y', y'.length = n ∧ ∀ k, 40 ≤ k → F k y = G k y') : ∃ y', y'.length = n ∧ ∀ k, 40 ≤ k → (some v).bind (F k) = G k y' := by
  obtain ⟨y', h1, h2⟩ := h v hv
  exact ⟨y', h1, fun k hk => h2 k hk⟩
theorem peelT {α β : Type} {n : Nat} {a : Int} {F : Nat → ByteArray → Option β} {G : Nat → List α → Option β} (ha : a ≤ 4000000000000) (h : ∀ t : ByteArray, ∃ y', y'.length = n ∧ ∀ k, 40 ≤ k → F k t = G k y') : ∃ y', y'.length = n ∧ ∀ k, 40 ≤ k → (laws_markText.f k a).bind (F k) = G k y' := by
  obtain ⟨y', h1, h2⟩ := h (mkT a)
  exact ⟨y', h1, fun k hk => by rw [ms_text a ha k hk]; exact h2 k hk⟩
/-- Marks in nodes: so many, and no number below 0. -/
theorem markNodeS_ev : ∀ (d i : Nat) (x : List S67) (m : Int), i + d = x.length → x.length ≤ 1048576 → 1 ≤ m → m + 14 * (d : Int) ≤ 100000000 → ∃ y, Ev (fun k => laws_markNodeS.l0 k x m (i : Int)) (m + 14 * (d : Int), y)
  | 0, i, x, m, h, hx, h1, h2 => by
    refine ⟨x, Ev.step (f := fun _ => some (m, x)) (fun k => ?_) ?_⟩
    · show laws_markNodeS.l0 (k + 1) x m (i : Int) = _
      rw [laws_markNodeS.l0, if_neg (by omega)]
    · rw [show m + 14 * ((0 : Nat) : Int) = m from by omega]; exact Ev.now _
  | d + 1, i, x, m, h, hx, h1, h2 => by
    have c1 : ((i : Int) < (x.length : Int)) = True := eq_true (by omega)
    have c2 : (0 ≤ (i : Int)) = True := eq_true (by omega)
    have w1 := ms_w (x := m + 1) (by omega) (by omega)
    have step : ∃ x' : List S67, x'.length = x.length ∧ ∀ k, 40 ≤ k → laws_markNodeS.l0 (k + 1) x m (i : Int) = laws_markNodeS.l0 k x' (m + 14) ((i + 1 : Nat) : Int) := by
      simp only [laws_markNodeS.l0, c1, c2, if_true]
      refine peel (by rw [List.length_set]) ?_; intro y0 hy0
      refine peelT (by rw [w1]; omega) ?_; intro t
      repeat (refine peel (by rw [List.length_set]; assumption) ?_; intro y hy)
      refine ⟨?z, ?hz, fun k _ => ?hk⟩
      case hk =>
        rw [ms_w (x := (i : Int) + 1) (by omega) (by omega), w1, ms_w (x := m + 1 + 1) (by omega) (by omega), ms_w (x := m + 1 + 1 + 1) (by omega) (by omega), ms_w (x := m + 1 + 1 + 1 + 1) (by omega) (by omega), ms_w (x := m + 1 + 1 + 1 + 1 + 1) (by omega) (by omega), ms_w (x := m + 1 + 1 + 1 + 1 + 1 + 1) (by omega) (by omega), ms_w (x := m + 1 + 1 + 1 + 1 + 1 + 1 + 1) (by omega) (by omega), ms_w (x := m + 1 + 1 + 1 + 1 + 1 + 1 + 1 + 1) (by omega) (by omega), ms_w (x := m + 1 + 1 + 1 + 1 + 1 + 1 + 1 + 1 + 1) (by omega) (by omega), ms_w (x := m + 1 + 1 + 1 + 1 + 1 + 1 + 1 + 1 + 1 + 1) (by omega) (by omega), ms_w (x := m + 1 + 1 + 1 + 1 + 1 + 1 + 1 + 1 + 1 + 1 + 1) (by omega) (by omega), ms_w (x := m + 1 + 1 + 1 + 1 + 1 + 1 + 1 + 1 + 1 + 1 + 1 + 1) (by omega) (by omega), ms_w (x := m + 1 + 1 + 1 + 1 + 1 + 1 + 1 + 1 + 1 + 1 + 1 + 1 + 1) (by omega) (by omega), ms_w (x := m + 1 + 1 + 1 + 1 + 1 + 1 + 1 + 1 + 1 + 1 + 1 + 1 + 1 + 1) (by omega) (by omega), show m + 1 + 1 + 1 + 1 + 1 + 1 + 1 + 1 + 1 + 1 + 1 + 1 + 1 + 1 = m + 14 from by omega]
        rfl
      case hz => rw [List.length_set]; assumption
    obtain ⟨x', hl, hs⟩ := step
    obtain ⟨y, K, hy⟩ := markNodeS_ev d (i + 1) x' (m + 14) (by omega) (by omega) (by omega) (by omega)
    refine ⟨y, K + 41, fun k hk => ?_⟩
    obtain ⟨k, rfl⟩ : ∃ q, k = q + 1 := ⟨k - 1, by omega⟩
    show laws_markNodeS.l0 (k + 1) x m (i : Int) = _
    rw [hs k (by omega)]
    have := hy k (by omega)
    rw [show m + 14 * ((d + 1 : Nat) : Int) = m + 14 + 14 * (d : Int) from by omega]
    exact this

theorem inB_is (S : List ByteArray) (x : ByteArray) : (S.any fun e => e.toList == x.toList) = inB S x := by
  unfold inB
  congr 1; funext y
  rw [ByteArray.toList_eq, ByteArray.toList_eq]
theorem usedL_len : ∀ (l : List S67) (out : List ByteArray), (usedL l out).length ≤ out.length + l.length
  | [], out => by rw [usedL]; omega
  | n :: l, out => by
    rw [usedL]
    split
    · have := usedL_len l (out ++ [upS n.f1]); simp at *; omega
    · have := usedL_len l out; simp; omega
/-- The reference's list of names. -/
theorem specUsed_ev (l : List S67) (hs : ∀ x ∈ l, x.f1.size ≤ 1048576) (hl : l.length ≤ 300) : ∀ (d i : Nat) (out : List ByteArray), i + d = l.length → out.length ≤ i → Ev (fun k => spec_UsedNames.l0 k out l (l.length : Int) (i : Int)) (usedL (l.drop i) out)
  | 0, i, out, h, ho => by
    refine Ev.step (f := fun _ => some out) (fun k => ?_) ?_
    · show spec_UsedNames.l0 (k + 1) out l (l.length : Int) (i : Int) = _
      rw [spec_UsedNames.l0, if_neg (by omega)]
    · rw [List.drop_of_length_le (by omega), usedL]; exact Ev.now _
  | d + 1, i, out, h, ho => by
    have hlt : i < l.length := by omega
    rw [List.drop_eq_getElem_cons hlt, usedL]
    have hsz := hs _ (List.getElem_mem hlt)
    have hw := wrap_id (x := (i : Int) + 1) (by omega) (by omega)
    have hup : spec_l4Upper.f (l[i]).f1 = some (upS (l[i]).f1) := by unfold spec_l4Upper.f; rw [if_pos hsz]
    have hin : ∀ k, 1048600 ≤ k → spec_l4In.f k out (upS (l[i]).f1) = some (inB out (upS (l[i]).f1)) := by
      intro k hk
      have := specIn_gen (upS (l[i]).f1) out k (by omega) (by omega)
      rw [this, inB_is]
    have e0 : ∀ k, spec_UsedNames.l0 (k + 1) out l (l.length : Int) (i : Int) = if (l[i]).f0 = 7 then ((spec_l4In.f k out (upS (l[i]).f1)).bind fun t385 => (if t385 = true then (spec_UsedNames.l0 k out l (l.length : Int) ((i + 1 : Nat) : Int)) else (spec_UsedNames.l0 k (out ++ [upS (l[i]).f1]) l (l.length : Int) ((i + 1 : Nat) : Int)))) else spec_UsedNames.l0 k out l (l.length : Int) ((i + 1 : Nat) : Int) := by
      intro k
      rw [spec_UsedNames.l0, if_pos (by omega), if_pos (by omega), if_pos (by omega), rdN_at l i hlt, hup, hw]
      simp only [Option.bind_some]
      rw [if_pos (by omega : out.length < 8796093022208)]
      rfl
    by_cases h7 : (l[i]).f0 = 7
    · cases hb : inB out (upS (l[i]).f1)
      · rw [if_pos ⟨h7, rfl⟩]
        obtain ⟨K, hK⟩ := specUsed_ev l hs hl d (i + 1) (out ++ [upS (l[i]).f1]) (by omega) (by simp; omega)
        refine ⟨K + 1048601, fun k hk => ?_⟩
        obtain ⟨k, rfl⟩ : ∃ q, k = q + 1 := ⟨k - 1, by omega⟩
        show spec_UsedNames.l0 (k + 1) out l (l.length : Int) (i : Int) = _
        rw [e0, if_pos h7, hin k (by omega), hb]
        simp only [Option.bind_some, Bool.false_eq_true, if_false]
        exact hK k (by omega)
      · rw [if_neg (fun h => by have := h.2; cases this)]
        obtain ⟨K, hK⟩ := specUsed_ev l hs hl d (i + 1) out (by omega) (by omega)
        refine ⟨K + 1048601, fun k hk => ?_⟩
        obtain ⟨k, rfl⟩ : ∃ q, k = q + 1 := ⟨k - 1, by omega⟩
        show spec_UsedNames.l0 (k + 1) out l (l.length : Int) (i : Int) = _
        rw [e0, if_pos h7, hin k (by omega), hb]
        simp only [Option.bind_some, if_true]
        exact hK k (by omega)
    · rw [if_neg (fun h => h7 h.1)]
      obtain ⟨K, hK⟩ := specUsed_ev l hs hl d (i + 1) out (by omega) (by omega)
      refine ⟨K + 1, fun k hk => ?_⟩
      obtain ⟨k, rfl⟩ : ∃ q, k = q + 1 := ⟨k - 1, by omega⟩
      show spec_UsedNames.l0 (k + 1) out l (l.length : Int) (i : Int) = _
      rw [e0, if_neg h7]
      exact hK k (by omega)
theorem used_same (l : List S67) (hs : ∀ x ∈ l, x.f1.size ≤ 1048576) (hlen : l.length ≤ 1048576) : ∃ u, u.length ≤ 300 ∧ Ev (fun k => spec_UsedNames.f k l) u ∧ impl_UsedNames.f l = some u := by
  obtain ⟨b, hb1, hb2⟩ := form_same l hs hlen
  have hI : impl_GoodFormula.f 0 l = some b := by
    obtain ⟨K, hK⟩ := hb2
    have : impl_GoodFormula.f K l = impl_GoodFormula.f 0 l := rfl
    rw [← this]; exact hK K (Nat.le_refl _)
  have hall : l.all (fun x => decide (x.f1.size ≤ 1048576)) = true := List.all_eq_true.mpr fun x hx => decide_eq_true (hs x hx)
  have hIU : impl_UsedNames.f l = some (if b = true then usedL l [] else []) := by
    unfold impl_UsedNames.f
    rw [if_pos ⟨hlen, hall⟩, hI]; rfl
  cases b with
  | false =>
    refine ⟨[], by simp, ?_, hIU⟩
    unfold spec_UsedNames.f
    exact Ev.bind hb1 (Ev.now _)
  | true =>
    have h300 : l.length ≤ 300 := by
      unfold impl_GoodFormula.f at hI
      by_cases h : (l.length : Int) ≥ 1
      · rw [if_pos h] at hI
        by_cases h3 : (l.length : Int) ≤ 300
        · omega
        · rw [if_neg h3] at hI; cases hI
      · omega
    refine ⟨usedL l [], by have := usedL_len l []; simp at this; omega, ?_, hIU⟩
    unfold spec_UsedNames.f
    refine Ev.bind hb1 ?_
    simp only [if_true]
    exact specUsed_ev l hs h300 l.length 0 [] (by omega) (by simp)
theorem FnExactUsedNames : ∀ (l0 : (List S64)), QL Q64 l0 → ∃ k, laws_FnExactUsedNames.f k l0 = some true := by
  intro l q
  refine Ev.rounds ?_
  unfold laws_FnExactUsedNames.f
  rcases szNodeS_ev l q with h | ⟨t, t0, h, hl, hs⟩
  · refine Ev.bind h ?_
    simp only [show ((-1 : Int) < 0) = True from eq_true (by omega), if_true]
    exact Ev.now true
  · refine Ev.bind h ?_
    simp only [show (t < 0) = False from eq_false (by omega), if_false]
    have ht := toNodeS_ev l hl
    have hl2 : (l.map toN).length ≤ 1048576 := by rw [List.length_map]; exact hl
    obtain ⟨u, hu, b1, b2⟩ := used_same (l.map toN) (toN_size l hs) hl2
    have hu2 : Ev (fun _ : Nat => impl_UsedNames.f (l.map toN)) u := ⟨0, fun _ _ => b2⟩
    have hee := eqStringS_ev u (by omega)
    refine Ev.bind ht (Ev.bind b1 (Ev.bind ht (Ev.bind hu2 (Ev.bind hee ?_))))
    simp only [if_true]
    refine Ev.bind ht (Ev.bind (eqNodeS_refl _ hl2) ?_)
    simp only [if_true]
    obtain ⟨y, hy⟩ := markNodeS_ev (l.map toN).length 0 (l.map toN) 1 (by omega) hl2 (by omega) (by omega)
    refine Ev.bind (a := (1 + 14 * ((l.map toN).length : Int), y)) hy ?_
    simp only [show (1 + 14 * ((l.map toN).length : Int) < 0) = False from eq_false (by omega), if_false]
    refine Ev.bind hee ?_
    refine Ev.step (g := fun k => laws_FnExactUsedNames.j0 k l u u (!true)) (fun k => by rw [laws_FnExactUsedNames.j0]) ?_
    simp only [Bool.not_true, Bool.false_eq_true, if_false]
    obtain ⟨K, hK⟩ := ms_row u [] 0 1 rfl (by omega) (by omega) (by omega)
    refine Ev.bind (a := (1 + (u.length : Int), markRow u 1)) ⟨K, hK⟩ ?_
    have hh := heldRow u [] 0 1 rfl (by omega) (by omega) (by omega)
    refine Ev.bind (a := 1 + (u.length : Int)) hh ?_
    simp only [show (1 + (u.length : Int) < 0) = False from eq_false (by omega), if_false, if_true]
    refine Ev.bind ht (Ev.bind hu2 (Ev.bind hee ?_))
    simp only [if_true]
    refine Ev.bind (a := 1 + (u.length : Int)) hh ?_
    simp only [show (1 + (u.length : Int) < 0) = False from eq_false (by omega), if_false, if_true]
    exact Ev.now true

end Go.Proofs.YtegdpgpbdcediaaGreatDoor.Pure
