/- The plain law of FnExactReadSeparated: what the program computes is what the reference computes, for every input (no further condition). -/
import Derived.Test.YtojfkjggpdlngaaMFnExactReadSeparateda7
namespace Go.Proofs.Ytojfkjggpdlngaa.Pure
open Go.RowKit Go.Proofs.Ytojfkjggpdlngaa.PFnExactReadSeparated Go.Proofs.YtojfkjggpdlngaaW.PrintWords Go.Proofs.YtojfkjggpdlngaaW.PrintLast

set_option linter.unusedVariables false
set_option linter.unusedSimpArgs false
/-! plain facts on whole numbers -/
theorem wrap_id {x : Int} (h1 : -9223372036854775808 ≤ x) (h2 : x ≤ 9223372036854775807) : wrap64 x = x := by
  unfold wrap64; omega
theorem td_pos {a b : Int} (h : 0 ≤ a) : a.tdiv b = a / b := Int.tdiv_eq_ediv_of_nonneg h
theorem td_neg {a b : Int} (h : a ≤ 0) : a.tdiv b = -((-a) / b) := by
  rw [← Int.tdiv_eq_ediv_of_nonneg (by omega : 0 ≤ -a), Int.neg_tdiv]; omega
theorem tm_pos {a b : Int} (h : 0 ≤ a) : a.tmod b = a % b := Int.tmod_eq_emod_of_nonneg h
theorem tm_neg {a b : Int} (h : a ≤ 0) : a.tmod b = -((-a) % b) := by
  rw [← Int.tmod_eq_emod_of_nonneg (by omega : 0 ≤ -a), Int.neg_tmod]; omega
theorem tm_zero (a b : Int) : a.tmod b = 0 ↔ a % b = 0 := by
  rw [← Int.dvd_iff_tmod_eq_zero, ← Int.dvd_iff_emod_eq_zero]
theorem ediv_is {a b q r : Int} (hb : 0 < b) (h : a = b * q + r) (h0 : 0 ≤ r) (h1 : r < b) : a / b = q := by
  rw [h, Int.add_comm, Int.add_mul_ediv_left _ _ (by omega), Int.ediv_eq_zero_of_lt h0 h1]; omega
theorem ediv_neg_of {a b : Int} (hb : 0 < b) (h : a.tmod b = 0) : a.tdiv b = a / b := by
  have e := Int.mul_tdiv_add_tmod a b
  rw [h] at e
  exact (ediv_is hb (q := a.tdiv b) (r := 0) (by omega) (by omega) hb).symm
theorem ediv_floor {a b : Int} (hb : 0 < b) (ha : a < 0) (h : a.tmod b ≠ 0) : a.tdiv b - 1 = a / b := by
  have e := Int.mul_tdiv_add_tmod a b
  have hm := tm_neg (a := a) (b := b) (by omega)
  have h0 := Int.emod_nonneg (-a) (by omega : b ≠ 0)
  have h1 := Int.emod_lt_of_pos (-a) hb
  refine (ediv_is hb (q := a.tdiv b - 1) (r := a.tmod b + b) ?_ (by omega) (by omega)).symm
  rw [Int.mul_sub]; omega
/-- The floor, as both programs reckon it. -/
theorem floor_is {a b : Int} (hb : 0 < b) (h1 : -4611686018427387904 ≤ a) (h2 : a ≤ 4611686018427387904) :
    (if b = 0 then (none) else (if (Int.tmod a b) = 0 then (some (wrap64 (Int.tdiv a b))) else (if ((decide (a < 0)) != (decide (b < 0))) = true then (some (wrap64 ((wrap64 (Int.tdiv a b)) - 1))) else (some (wrap64 (Int.tdiv a b)))))) = some (a / b) := by
  have hle : a / b ≤ 4611686018427387904 := by
    by_cases h : 0 ≤ a
    · exact Int.le_trans (Int.ediv_le_self b h) h2
    · have := Int.ediv_neg_of_neg_of_pos (by omega : a < 0) hb; omega
  have hge : -4611686018427387904 ≤ a / b := by
    by_cases h : 0 ≤ a
    · have := Int.ediv_nonneg h (by omega : 0 ≤ b); omega
    · exact Int.le_ediv_of_mul_le hb (by have : -4611686018427387904 * b ≤ -4611686018427387904 * 1 := by omega
                                         omega)
  rw [if_neg (by omega : ¬ b = 0)]
  by_cases hm : Int.tmod a b = 0
  · rw [if_pos hm, ediv_neg_of hb hm, wrap_id (by omega) (by omega)]
  · rw [if_neg hm]
    by_cases ha : a < 0
    · have e := ediv_floor hb ha hm
      rw [if_pos (by simp [ha]; omega), wrap_id (x := Int.tdiv a b) (by omega) (by omega), e, wrap_id (by omega) (by omega)]
    · rw [if_neg (by simp [ha]; omega), td_pos (by omega), wrap_id (by omega) (by omega)]

/-! plain facts on texts as lists of numbers -/
theorem u8_back (b : UInt8) : UInt8.ofNat ((b.toNat : Int)).toNat = b := by simp
theorem strOfNums_bytesOf (s : ByteArray) : strOfNums (bytesOf s) = s := by
  cases s with | mk d =>
  unfold strOfNums bytesOf
  congr 1
  rw [List.map_map]
  have : ((fun n : Int => UInt8.ofNat n.toNat) ∘ fun b : UInt8 => (b.toNat : Int)) = id := by funext b; exact u8_back b
  rw [this, List.map_id]
def okL (xs : List Int) : Prop := ∀ x ∈ xs, 0 ≤ x ∧ x < 256
theorem bytesOf_strOfNums (xs : List Int) (h : okL xs) : bytesOf (strOfNums xs) = xs := by
  unfold bytesOf
  rw [strOfNums_data, List.map_map]
  conv => rhs; rw [← List.map_id xs]
  refine List.map_congr_left fun x hx => ?_
  have := h x hx
  simp only [Function.comp, UInt8.toNat_ofNat', id]
  omega
theorem okL_bytesOf (s : ByteArray) : okL (bytesOf s) := by
  intro x hx
  obtain ⟨b, _, rfl⟩ := List.mem_map.1 hx
  have := b.toNat_lt
  omega
theorem strOfNums_app (xs ys : List Int) : strOfNums xs ++ strOfNums ys = strOfNums (xs ++ ys) := by
  apply ByteArray.ext
  rw [ByteArray.data_append]
  simp [strOfNums]
theorem bytesOf_inj {s t : ByteArray} (h : bytesOf s = bytesOf t) : s = t := by
  rw [← strOfNums_bytesOf s, ← strOfNums_bytesOf t, h]
theorem toList_iff (s t : ByteArray) : s.toList = t.toList ↔ bytesOf s = bytesOf t := by
  rw [ByteArray.toList_eq, ByteArray.toList_eq]
  constructor
  · intro h; unfold bytesOf; rw [h]
  · intro h; rw [bytesOf_inj h]
theorem bt_of (s : ByteArray) (L : List Int) (h : bytesOf s = L) (i : Int) : bt s i = rd L i := by
  rw [← h, rd_bytesOf]
theorem size_of' (s : ByteArray) (L : List Int) (h : bytesOf s = L) : s.size = L.length := by
  rw [← h, bytesOf_length]

/-! Reading separated text: both programs read a field alike, and go on alike. -/
theorem bytes_ext (s : ByteArray) (i j : Nat) : bytesOf (s.extract i j) = ((bytesOf s).drop i).take (j - i) := by
  unfold bytesOf; rw [ByteArray.data_extract, Array.toList_extract, List.extract]; simp [List.map_take, List.map_drop]
/-- How long the end of a row is that stands at i; 0: none. -/
def endV (s : ByteArray) (i : Nat) : Int := if i < s.size ∧ bt s (i : Int) = 10 then 1 else if i + 1 < s.size ∧ bt s (i : Int) = 13 ∧ bt s ((i : Int) + 1) = 10 then 2 else 0
theorem endV_rng (s : ByteArray) (i : Nat) : 0 ≤ endV s i ∧ endV s i ≤ 2 ∧ (endV s i ≠ 0 → (i : Int) + endV s i ≤ s.size) := by
  unfold endV
  split
  · rename_i h; exact ⟨by omega, by omega, fun _ => by omega⟩
  · split
    · rename_i h; exact ⟨by omega, by omega, fun _ => by omega⟩
    · exact ⟨by omega, by omega, fun h => absurd rfl h⟩
theorem specEnd (s : ByteArray) (hs : s.size ≤ 20000) (i : Nat) (hi : i ≤ s.size) (k : Nat) (hk : 1 ≤ k) : spec_l14End.f k s (i : Int) = some (endV s i) := by
  obtain ⟨k, rfl⟩ : ∃ m, k = m + 1 := ⟨k - 1, by omega⟩
  have hw : wrap64 ((i : Int) + 1) = (i : Int) + 1 := wrap_id (by omega) (by omega)
  unfold spec_l14End.f endV
  by_cases h : i < s.size
  · rw [if_pos (by omega), if_pos (by omega)]
    simp only [spec_l14End.j0]
    rw [hw]
    by_cases h10 : bt s (i : Int) = 10
    · rw [if_pos (by rw [h10]; rfl), if_pos ⟨h, h10⟩]
    · rw [if_neg (by simpa using h10), if_neg (fun (q : i < s.size ∧ bt s (i : Int) = 10) => h10 q.2)]
      by_cases h2 : i + 1 < s.size
      · rw [if_pos (show (i : Int) + 1 < (s.size : Int) by omega), if_pos (by omega), if_pos (by omega)]
        by_cases h13 : bt s (i : Int) = 13
        · rw [if_pos h13, if_pos (by omega)]
          by_cases hb : bt s ((i : Int) + 1) = 10
          · rw [if_pos hb, if_pos ⟨h2, h13, hb⟩]
          · rw [if_neg hb, if_neg (fun q => hb q.2.2)]
        · rw [if_neg h13, if_neg (fun q => h13 q.2.1)]
      · rw [if_neg (by omega), if_neg (fun q => h2 q.1)]
  · rw [if_neg (by omega), if_neg (fun q => h q.1), if_neg (fun q => h (by omega))]
    simp only [spec_l14End.j0]
    rw [if_neg (by simp), hw, if_neg (by omega)]
theorem drop_bt (s : ByteArray) (i : Nat) (h : i < s.size) : (bytesOf s).drop i = bt s (i : Int) :: (bytesOf s).drop (i + 1) := by
  rw [List.drop_eq_getElem_cons (by rw [bytesOf_length]; exact h)]
  congr 1
  have := rd_bytesOf s (i : Int)
  rw [← this]
  unfold rd
  rw [Int.toNat_natCast, List.getD_eq_getElem?_getD, List.getElem?_eq_getElem (by rw [bytesOf_length]; exact h)]; rfl
theorem hasPrefix_is (x y : ByteArray) (hx : x.size ≤ 20000) : strings_HasPrefix.f x y = some (decide ((bytesOf x).take y.size = bytesOf y)) := by
  unfold strings_HasPrefix.f stringslite_HasPrefix.f
  by_cases h : x.size < y.size
  · rw [if_neg (by omega)]
    simp only [Option.bind_some, Option.some.injEq]
    refine (decide_eq_false ?_).symm
    intro e
    have := congrArg List.length e
    rw [List.length_take, bytesOf_length, bytesOf_length] at this; omega
  · rw [if_pos (by omega), if_pos (by omega), if_pos (by omega)]
    simp only [Option.bind_some, Option.some.injEq, Int.toNat_natCast]
    have e : ((x.extract 0 y.size).toList = y.toList) ↔ ((bytesOf x).take y.size = bytesOf y) := by
      rw [toList_iff, bytes_ext]; simp
    by_cases q : (bytesOf x).take y.size = bytesOf y
    · rw [decide_eq_true q]; simpa using e.2 q
    · rw [decide_eq_false q]; simpa using fun h => q (e.1 h)
theorem implEnd (s : ByteArray) (hs : s.size ≤ 20000) (i : Nat) (hi : i ≤ s.size) : impl_rowEnd.f s (i : Int) = some (endV s i) := by
  have hx : bytesOf (s.extract i s.size) = (bytesOf s).drop i := by
    rw [bytes_ext]; exact List.take_of_length_le (by rw [List.length_drop, bytesOf_length]; omega)
  have hz : (s.extract i s.size).size ≤ 20000 := by rw [ByteArray.size_extract]; omega
  have b1 : bytesOf (⟨#[10]⟩ : ByteArray) = [10] := rfl
  have b2 : bytesOf (⟨#[13, 10]⟩ : ByteArray) = [13, 10] := rfl
  have z1 : (⟨#[10]⟩ : ByteArray).size = 1 := rfl
  have z2 : (⟨#[13, 10]⟩ : ByteArray).size = 2 := rfl
  unfold impl_rowEnd.f endV
  rw [if_pos (by omega), if_pos (by omega), Int.toNat_natCast, hasPrefix_is _ _ hz, hasPrefix_is _ _ hz, hx, b1, b2, z1, z2]
  simp only [Option.bind_some]
  by_cases h : i < s.size
  · rw [drop_bt s i h]
    by_cases h10 : bt s (i : Int) = 10
    · rw [if_pos (show decide ((bt s (i : Int) :: (bytesOf s).drop (i + 1)).take 1 = [10]) = true by rw [h10]; rfl), if_pos (show i < s.size ∧ bt s (i : Int) = 10 from ⟨h, h10⟩)]
    · rw [if_neg (show ¬ decide ((bt s (i : Int) :: (bytesOf s).drop (i + 1)).take 1 = [10]) = true by simp; exact h10), if_neg (show ¬ (i < s.size ∧ bt s (i : Int) = 10) from fun q => h10 q.2)]
      by_cases h2 : i + 1 < s.size
      · have e : ((i + 1 : Nat) : Int) = (i : Int) + 1 := rfl
        rw [drop_bt s (i + 1) h2, e]
        by_cases h13 : bt s (i : Int) = 13 ∧ bt s ((i : Int) + 1) = 10
        · rw [if_pos (show decide ((bt s (i : Int) :: bt s ((i : Int) + 1) :: (bytesOf s).drop (i + 1 + 1)).take 2 = [13, 10]) = true by rw [h13.1, h13.2]; rfl), if_pos (show i + 1 < s.size ∧ bt s (i : Int) = 13 ∧ bt s ((i : Int) + 1) = 10 from ⟨h2, h13.1, h13.2⟩)]
        · rw [if_neg (show ¬ decide ((bt s (i : Int) :: bt s ((i : Int) + 1) :: (bytesOf s).drop (i + 1 + 1)).take 2 = [13, 10]) = true by simp; exact fun a b => h13 ⟨a, b⟩), if_neg (show ¬ (i + 1 < s.size ∧ bt s (i : Int) = 13 ∧ bt s ((i : Int) + 1) = 10) from fun q => h13 q.2)]
      · have e : (bytesOf s).drop (i + 1) = [] := List.drop_eq_nil_of_le (by rw [bytesOf_length]; omega)
        rw [e, if_neg (show ¬ decide ([bt s (i : Int)].take 2 = [13, 10]) = true by simp), if_neg (show ¬ (i + 1 < s.size ∧ bt s (i : Int) = 13 ∧ bt s ((i : Int) + 1) = 10) from fun q => h2 q.1)]
  · have e : (bytesOf s).drop i = [] := List.drop_eq_nil_of_le (by rw [bytesOf_length]; omega)
    rw [e, if_neg (show ¬ decide (([] : List Int).take 1 = [10]) = true by simp), if_neg (show ¬ decide (([] : List Int).take 2 = [13, 10]) = true by simp), if_neg (show ¬ (i < s.size ∧ bt s (i : Int) = 10) from fun q => h q.1), if_neg (show ¬ (i + 1 < s.size ∧ bt s (i : Int) = 13 ∧ bt s ((i : Int) + 1) = 10) from fun q => h (by omega))]
/-- Where a field ends well: the text's end, the mark, or a row's end stands there. -/
def endsAt (s : ByteArray) (c : Int) (n : Nat) : Prop := n ≥ s.size ∨ bt s (n : Int) = c ∨ endV s n ≠ 0
/-- What the reference does behind a field. -/
def tailS (s m : ByteArray) (x5 : List (List ByteArray)) (y : List ByteArray) (n : Nat) (k : Nat) : Option (Int × Int × List (List ByteArray)) :=
  if n < s.size then (if bt s (n : Int) = bt m 0 then spec_ReadSeparated.l1 k s m x5 ((n : Int) + 1) y else spec_ReadSeparated.l0 k s m (x5 ++ [y]) ((n : Int) + endV s n)) else spec_ReadSeparated.l0 k s m (x5 ++ [y]) (n : Int)
theorem endV_out (s : ByteArray) (n : Nat) (h : s.size ≤ n) : endV s n = 0 := by unfold endV; rw [if_neg (fun q => by omega), if_neg (fun q => by omega)]
/-- Behind a field's end both go on alike: the reference's part. -/
theorem j6_ok (s m : ByteArray) (hs : s.size ≤ 20000) (hm : 0 < m.size) (x5 : List (List ByteArray)) (x7 : List ByteArray) (x8 : List Int) (n : Nat) (hn : n ≤ s.size) (r : Int × Int × List (List ByteArray)) (h7 : x7.length ≤ 30000) (h5 : x5.length ≤ 30000)
    (h : Ev (tailS s m x5 (x7 ++ [strOfNums x8]) n) r) : Ev (fun k => spec_ReadSeparated.j6 k s m x5 (n : Int) x7 x8 false) r := by
  have hw : wrap64 ((n : Int) + 1) = (n : Int) + 1 := wrap_id (by omega) (by omega)
  have he := endV_rng s n
  have hw2 : wrap64 ((n : Int) + endV s n) = (n : Int) + endV s n := wrap_id (by omega) (by omega)
  obtain ⟨K, hK⟩ := h
  refine ⟨K + 2, fun k hk => ?_⟩
  obtain ⟨k, rfl⟩ : ∃ m, k = m + 1 := ⟨k - 1, by omega⟩
  have hk2 := hK k (by omega)
  unfold tailS at hk2
  simp only [spec_ReadSeparated.j6]
  rw [if_neg (by simp), if_pos (by omega)]
  simp only [Option.bind_some]
  by_cases h1 : n < s.size
  · rw [if_pos h1] at hk2
    rw [if_pos (by omega), if_pos (by omega), if_pos (by omega)]
    by_cases hc : bt s (n : Int) = bt m 0
    · rw [if_pos hc] at hk2
      rw [if_pos hc, hw]; exact hk2
    · rw [if_neg hc] at hk2
      rw [if_neg hc, if_pos (by omega), specEnd s hs n hn k (by omega)]
      simp only [Option.bind_some]
      rw [hw2]; exact hk2
  · rw [if_neg h1] at hk2
    rw [if_neg (by omega), if_pos (by omega), specEnd s hs n hn k (by omega), endV_out s n (by omega)]
    simp only [Option.bind_some]
    rw [Int.add_zero, wrap_id (by omega) (by omega)]; exact hk2
theorem quotedBoth (s m : ByteArray) (hs : s.size ≤ 20000) (hm : 0 < m.size) : ∀ (d i : Nat) (acc : List Int), i + d = s.size → acc.length ≤ i →
    ∃ f n err, (n ≤ s.size ∧ i ≤ n) ∧ (err = 0 → i < n ∧ endsAt s (bt m 0) n) ∧ Ev (fun k => impl_separatedField.l0 k s (i : Int) (bt m 0) acc) (f, ((n : Nat) : Int), err) ∧
      ∀ (x5 : List (List ByteArray)) (x7 : List ByteArray) r, x7.length ≤ 30000 → x5.length ≤ 30000 → (err ≠ 0 → r = (err, (n : Int), [])) → (err = 0 → Ev (tailS s m x5 (x7 ++ [f]) n) r) → Ev (fun k => spec_ReadSeparated.l2 k s m x5 (i : Int) x7 acc) r := by
  intro d
  induction d using Nat.strongRecOn with
  | _ d ih =>
    intro i acc hi ha
    by_cases hlt : i < s.size
    · have hw : wrap64 ((i : Int) + 1) = (i : Int) + 1 := wrap_id (by omega) (by omega)
      have hw2 : wrap64 ((i : Int) + 1 + 1) = (i : Int) + 1 + 1 := wrap_id (by omega) (by omega)
      by_cases hq : bt s (i : Int) = 34
      · by_cases hq2 : i + 1 < s.size ∧ bt s ((i : Int) + 1) = 34
        · obtain ⟨f, n, err, h1, h2, h3, h4⟩ := ih (d - 2) (by omega) (i + 2) (acc ++ [bt s ((i : Int) + 1)]) (by omega) (by rw [List.length_append]; simp; omega)
          refine ⟨f, n, err, ⟨h1.1, by have := h1.2; omega⟩, fun he => ⟨by have := (h2 he).1; omega, (h2 he).2⟩, Ev.step (fun k => ?_) h3, fun x5 x7 r h7 h5 hr1 hr2 => Ev.step (fun k => ?_) (h4 x5 x7 r h7 h5 hr1 hr2)⟩
          · rw [impl_separatedField.l0, if_neg (by omega), if_pos (by omega), if_pos (by omega), if_pos hq, hw, if_pos (by omega), if_pos (by omega), if_pos hq2.2, if_pos (by omega), hw2]; rfl
          · rw [spec_ReadSeparated.l2, if_neg (by omega), if_pos (by omega), if_pos (by omega), if_pos hq, hw, if_pos (by omega), if_pos (by omega), if_pos hq2.2, if_pos (by omega), hw2]; rfl
        · -- the closing quote
          have hspec : ∀ (x5 : List (List ByteArray)) (x7 : List ByteArray) r, Ev (fun k => spec_ReadSeparated.j5 k s m x5 (i : Int) x7 acc) r → Ev (fun k => spec_ReadSeparated.l2 k s m x5 (i : Int) x7 acc) r := fun x5 x7 r h => Ev.step (fun k => by
            rw [spec_ReadSeparated.l2, if_neg (by omega), if_pos (by omega), if_pos (by omega), if_pos hq, hw]
            by_cases h1 : i + 1 < s.size
            · rw [if_pos (show (i : Int) + 1 < (s.size : Int) by omega), if_pos (by omega), if_neg (fun e => hq2 ⟨h1, e⟩)]
            · rw [if_neg (show ¬ (i : Int) + 1 < (s.size : Int) by omega)]) h
          have e1 : ((i + 1 : Nat) : Int) = (i : Int) + 1 := rfl
          by_cases hbad : i + 1 < s.size ∧ ¬ bt s ((i : Int) + 1) = bt m 0 ∧ endV s (i + 1) = 0
          · refine ⟨⟨#[]⟩, i + 1, 2, ⟨by omega, by omega⟩, fun he => absurd he (by decide), Ev.step (f := fun _ => some ((⟨#[]⟩ : ByteArray), ((i + 1 : Nat) : Int), 2)) (fun k => ?_) (Ev.now _), fun x5 x7 r h7 h5 hr1 hr2 => ?_⟩
            · have := implEnd s hs (i + 1) (by omega)
              rw [e1] at this
              rw [impl_separatedField.l0, if_neg (by omega), if_pos (by omega), if_pos (by omega), if_pos hq, hw, if_pos (by omega), if_pos (by omega), if_neg (fun e => hq2 ⟨hbad.1, e⟩), if_neg hbad.2.1, this, hbad.2.2]
              rfl
            · obtain rfl := hr1 (by decide)
              refine hspec x5 x7 _ ⟨5, fun k hk => ?_⟩
              obtain ⟨k, rfl⟩ : ∃ m, k = m + 1 := ⟨k - 1, by omega⟩
              have := specEnd s hs (i + 1) (by omega) k (by omega)
              rw [e1] at this
              simp only [spec_ReadSeparated.j5]
              rw [hw, if_pos (by omega), if_pos (by omega), if_pos (by omega), if_neg hbad.2.1, this, hbad.2.2]
              simp only [Option.bind_some]
              obtain ⟨k, rfl⟩ : ∃ m, k = m + 1 := ⟨k - 1, by omega⟩
              simp only [spec_ReadSeparated.j6]
              rfl
          · have hend : endsAt s (bt m 0) (i + 1) := by
              unfold endsAt
              rw [e1]
              by_cases a : i + 1 < s.size
              · by_cases b : bt s ((i : Int) + 1) = bt m 0
                · exact .inr (.inl b)
                · exact .inr (.inr fun c => hbad ⟨a, b, c⟩)
              · exact .inl (by omega)
            refine ⟨strOfNums acc, i + 1, 0, ⟨by omega, by omega⟩, fun _ => ⟨by omega, hend⟩, Ev.step (f := fun _ => some (strOfNums acc, ((i + 1 : Nat) : Int), 0)) (fun k => ?_) (Ev.now _), fun x5 x7 r h7 h5 hr1 hr2 => ?_⟩
            · have := implEnd s hs (i + 1) (by omega)
              rw [e1] at this
              rw [impl_separatedField.l0, if_neg (by omega), if_pos (by omega), if_pos (by omega), if_pos hq, hw]
              by_cases a : i + 1 < s.size
              · rw [if_pos (by omega), if_pos (by omega), if_neg (fun e => hq2 ⟨a, e⟩)]
                by_cases b : bt s ((i : Int) + 1) = bt m 0
                · rw [if_pos b]; rfl
                · rw [if_neg b, this]
                  simp only [Option.bind_some]
                  rw [if_neg (fun c => hbad ⟨a, b, c⟩)]; rfl
              · rw [if_neg (by omega)]; rfl
            · have h6 := j6_ok s m hs hm x5 x7 acc (i + 1) (by omega) r h7 h5 (hr2 rfl)
              refine hspec x5 x7 _ ?_
              obtain ⟨K, hK⟩ := h6
              refine ⟨K + 3, fun k hk => ?_⟩
              obtain ⟨k, rfl⟩ : ∃ m, k = m + 1 := ⟨k - 1, by omega⟩
              have hK2 := hK k (by omega)
              rw [e1] at hK2
              have := specEnd s hs (i + 1) (by omega) k (by omega)
              rw [e1] at this
              simp only [spec_ReadSeparated.j5]
              rw [hw]
              by_cases a : i + 1 < s.size
              · rw [if_pos (by omega), if_pos (by omega), if_pos (by omega)]
                by_cases b : bt s ((i : Int) + 1) = bt m 0
                · rw [if_pos b]; exact hK2
                · rw [if_neg b, this]
                  simp only [Option.bind_some]
                  rw [beq_eq_false_iff_ne.mpr (fun c => hbad ⟨a, b, c⟩)]; exact hK2
              · rw [if_neg (by omega)]; exact hK2
      · obtain ⟨f, n, err, h1, h2, h3, h4⟩ := ih (d - 1) (by omega) (i + 1) (acc ++ [bt s (i : Int)]) (by omega) (by rw [List.length_append]; simp; omega)
        refine ⟨f, n, err, ⟨h1.1, by have := h1.2; omega⟩, fun he => ⟨by have := (h2 he).1; omega, (h2 he).2⟩, Ev.step (fun k => ?_) h3, fun x5 x7 r h7 h5 hr1 hr2 => Ev.step (fun k => ?_) (h4 x5 x7 r h7 h5 hr1 hr2)⟩
        · rw [impl_separatedField.l0, if_neg (by omega), if_pos (by omega), if_pos (by omega), if_neg hq, if_pos (by omega), hw]; rfl
        · rw [spec_ReadSeparated.l2, if_neg (by omega), if_pos (by omega), if_pos (by omega), if_neg hq, if_pos (by omega), hw]; rfl
    · obtain rfl : i = s.size := by omega
      refine ⟨⟨#[]⟩, s.size, 1, ⟨Nat.le_refl _, Nat.le_refl _⟩, fun h => absurd h (by decide), Ev.step (f := fun _ => some ((⟨#[]⟩ : ByteArray), (s.size : Int), 1)) (fun k => ?_) (Ev.now _), fun x5 x7 r h7 h5 hr1 hr2 => ?_⟩
      · rw [impl_separatedField.l0, if_pos (by omega)]
      · obtain rfl := hr1 (by decide)
        refine Ev.step (f := fun _ => some (1, (s.size : Int), [])) (fun k => ?_) (Ev.now _)
        rw [spec_ReadSeparated.l2, if_pos (by omega)]
/-- The field's bytes, as the reference gathers them. -/
def piece (s : ByteArray) (fr i : Nat) : List Int := ((bytesOf s).drop fr).take (i - fr)
theorem piece_len (s : ByteArray) (fr i : Nat) : (piece s fr i).length ≤ i := by unfold piece; rw [List.length_take]; omega
theorem piece_next (s : ByteArray) (fr i : Nat) (h1 : fr ≤ i) (h2 : i < s.size) : piece s fr i ++ [bt s (i : Int)] = piece s fr (i + 1) := by
  unfold piece
  have hl : i - fr < ((bytesOf s).drop fr).length := by rw [List.length_drop, bytesOf_length]; omega
  rw [show i + 1 - fr = (i - fr) + 1 from by omega, List.take_succ_eq_append_getElem hl]
  congr 1
  have hd := drop_bt s i h2
  have : ((bytesOf s).drop fr)[i - fr] = bt s (i : Int) := by
    rw [List.getElem_drop]
    have h3 := congrArg List.head? hd
    rw [List.head?_drop] at h3
    have h4 : fr + (i - fr) = i := by omega
    have h5 : i < (bytesOf s).length := by rw [bytesOf_length]; exact h2
    rw [List.getElem?_eq_getElem h5] at h3
    simp only [List.head?_cons, Option.some.injEq] at h3
    rw [← h3]
    congr 1
  rw [this]
theorem piece_str (s : ByteArray) (fr i : Nat) : strOfNums (piece s fr i) = s.extract fr i := by
  unfold piece; rw [← bytes_ext, strOfNums_bytesOf]
theorem plainBoth (s m : ByteArray) (hs : s.size ≤ 20000) (hm : 0 < m.size) (fr : Nat) : ∀ (d i : Nat), i + d = s.size → fr ≤ i →
    ∃ f n err, n ≤ s.size ∧ i ≤ n ∧ (err = 0 → endsAt s (bt m 0) n) ∧ Ev (fun k => impl_separatedField.l1 k s (i : Int) (bt m 0) (fr : Int)) (f, ((n : Nat) : Int), err) ∧
      ∀ (x5 : List (List ByteArray)) (x7 : List ByteArray) r, x7.length ≤ 30000 → x5.length ≤ 30000 → (err ≠ 0 → r = (err, (n : Int), [])) → (err = 0 → Ev (tailS s m x5 (x7 ++ [f]) n) r) → Ev (fun k => spec_ReadSeparated.l3 k s m x5 (i : Int) x7 (piece s fr i)) r := by
  intro d
  induction d with
  | zero =>
    intro i hi hf
    obtain rfl : i = s.size := by omega
    refine ⟨s.extract fr s.size, s.size, 0, Nat.le_refl _, Nat.le_refl _, fun _ => .inl (Nat.le_refl _), ⟨3, fun k hk => ?_⟩, fun x5 x7 r h7 h5 hr1 hr2 => ?_⟩
    · obtain ⟨k, rfl⟩ : ∃ m, k = m + 1 + 1 := ⟨k - 2, by omega⟩
      simp only [impl_separatedField.l1]
      rw [if_neg (by omega)]
      simp only [impl_separatedField.j3]
      rw [if_neg (by simp), if_pos (by omega), if_pos (by omega), if_pos (by omega), Int.toNat_natCast, Int.toNat_natCast]
    · have h6 := j6_ok s m hs hm x5 x7 (piece s fr s.size) s.size (Nat.le_refl _) r h7 h5 (by rw [piece_str]; exact hr2 rfl)
      obtain ⟨K, hK⟩ := h6
      refine ⟨K + 3, fun k hk => ?_⟩
      obtain ⟨k, rfl⟩ : ∃ m, k = m + 1 + 1 := ⟨k - 2, by omega⟩
      have hK2 := hK (k + 1) (by omega)
      simp only [spec_ReadSeparated.l3]
      rw [if_neg (by omega)]
      simp only [spec_ReadSeparated.j6] at hK2
      simp only [spec_ReadSeparated.j8]
      exact hK2
  | succ d ih =>
    intro i hi hf
    have hlt : i < s.size := by omega
    have hw : wrap64 ((i : Int) + 1) = (i : Int) + 1 := wrap_id (by omega) (by omega)
    have hie := implEnd s hs i (by omega)
    by_cases hend : bt s (i : Int) = bt m 0 ∨ endV s i ≠ 0
    · have hea : endsAt s (bt m 0) i := .inr hend
      refine ⟨s.extract fr i, i, 0, by omega, Nat.le_refl _, fun _ => hea, ⟨3, fun k hk => ?_⟩, fun x5 x7 r h7 h5 hr1 hr2 => ?_⟩
      · obtain ⟨k, rfl⟩ : ∃ m, k = m + 1 + 1 := ⟨k - 2, by omega⟩
        have hj : impl_separatedField.j3 (k + 1) s (i : Int) (bt m 0) (fr : Int) false = some (s.extract fr i, (i : Int), 0) := by
          simp only [impl_separatedField.j3]
          rw [if_neg (by simp), if_pos (by omega), if_pos (by omega), if_pos (by omega), Int.toNat_natCast, Int.toNat_natCast]
        simp only [impl_separatedField.l1]
        rw [if_pos (by omega), if_pos (by omega)]
        by_cases b : bt s (i : Int) = bt m 0
        · rw [if_pos b]; exact hj
        · rw [if_neg b, hie]
          simp only [Option.bind_some]
          rw [beq_eq_false_iff_ne.mpr (hend.resolve_left b)]; exact hj
      · have h6 := j6_ok s m hs hm x5 x7 (piece s fr i) i (by omega) r h7 h5 (by rw [piece_str]; exact hr2 rfl)
        obtain ⟨K, hK⟩ := h6
        refine ⟨K + 3, fun k hk => ?_⟩
        obtain ⟨k, rfl⟩ : ∃ m, k = m + 1 + 1 := ⟨k - 2, by omega⟩
        have hse := specEnd s hs i (by omega) (k + 1) (by omega)
        have hK2 := hK (k + 1) (by omega)
        simp only [spec_ReadSeparated.j6] at hK2
        have hj : spec_ReadSeparated.j8 (k + 1) s m x5 (i : Int) x7 (piece s fr i) false = some r := by
          simp only [spec_ReadSeparated.j8]; exact hK2
        simp only [spec_ReadSeparated.l3]
        rw [if_pos (by omega), if_pos (by omega), if_pos (by omega)]
        by_cases b : bt s (i : Int) = bt m 0
        · rw [if_pos b]; exact hj
        · rw [if_neg b, hse]
          simp only [Option.bind_some]
          rw [beq_eq_false_iff_ne.mpr (hend.resolve_left b)]; exact hj
    · have hb : ¬ bt s (i : Int) = bt m 0 := fun h => hend (.inl h)
      have he0 : endV s i = 0 := Classical.byContradiction fun h => hend (.inr h)
      by_cases hq : bt s (i : Int) = 34
      · refine ⟨⟨#[]⟩, i, 2, by omega, Nat.le_refl _, fun h => absurd h (by decide), ⟨3, fun k hk => ?_⟩, fun x5 x7 r h7 h5 hr1 hr2 => ?_⟩
        · obtain ⟨k, rfl⟩ : ∃ m, k = m + 1 + 1 := ⟨k - 2, by omega⟩
          simp only [impl_separatedField.l1]
          rw [if_pos (by omega), if_pos (by omega), if_neg hb, hie, he0]
          simp only [Option.bind_some, impl_separatedField.j3, beq_self_eq_true, if_true]
          rw [if_pos (by omega), if_pos (by omega), if_pos hq]
        · obtain rfl := hr1 (by decide)
          refine ⟨4, fun k hk => ?_⟩
          obtain ⟨k, rfl⟩ : ∃ m, k = m + 1 + 1 := ⟨k - 2, by omega⟩
          have hse := specEnd s hs i (by omega) (k + 1) (by omega)
          simp only [spec_ReadSeparated.l3]
          rw [if_pos (by omega), if_pos (by omega), if_pos (by omega), if_neg hb, hse, he0]
          simp only [Option.bind_some, spec_ReadSeparated.j8, beq_self_eq_true, if_true]
          rw [if_pos (by omega), if_pos (by omega), if_pos hq]
      · obtain ⟨f, n, err, h1, h2, h3, h4, h5⟩ := ih (i + 1) (by omega) (by omega)
        have e1 : ((i + 1 : Nat) : Int) = (i : Int) + 1 := rfl
        refine ⟨f, n, err, h1, by omega, h3, ?_, fun x5 x7 r h7 h8 hr1 hr2 => ?_⟩
        · obtain ⟨K, hK⟩ := h4
          refine ⟨K + 3, fun k hk => ?_⟩
          obtain ⟨k, rfl⟩ : ∃ m, k = m + 1 + 1 := ⟨k - 2, by omega⟩
          have hK2 := hK k (by omega)
          rw [e1] at hK2
          simp only [impl_separatedField.l1]
          rw [if_pos (by omega), if_pos (by omega), if_neg hb, hie, he0]
          simp only [Option.bind_some, impl_separatedField.j3, beq_self_eq_true, if_true]
          rw [if_pos (by omega), if_pos (by omega), if_neg hq, hw]; exact hK2
        · obtain ⟨K, hK⟩ := h5 x5 x7 r h7 h8 hr1 hr2
          refine ⟨K + 3, fun k hk => ?_⟩
          obtain ⟨k, rfl⟩ : ∃ m, k = m + 1 + 1 := ⟨k - 2, by omega⟩
          have hse := specEnd s hs i (by omega) (k + 1) (by omega)
          have hK2 := hK k (by omega)
          rw [e1, ← piece_next s fr i hf hlt] at hK2
          have hpl := piece_len s fr i
          simp only [spec_ReadSeparated.l3]
          rw [if_pos (by omega), if_pos (by omega), if_pos (by omega), if_neg hb, hse, he0]
          simp only [Option.bind_some, spec_ReadSeparated.j8, beq_self_eq_true, if_true]
          rw [if_pos (by omega), if_pos (by omega), if_neg hq, if_pos (by omega), hw]; exact hK2
theorem fieldBoth (s m : ByteArray) (hs : s.size ≤ 20000) (hm : 0 < m.size) (i : Nat) (hi : i ≤ s.size) :
    ∃ f n err, n ≤ s.size ∧ i ≤ n ∧ (err = 0 → endsAt s (bt m 0) n) ∧ Ev (fun k => impl_separatedField.f k s (i : Int) (bt m 0)) (f, ((n : Nat) : Int), err) ∧
      ∀ (x5 : List (List ByteArray)) (x7 : List ByteArray) r, x7.length ≤ 30000 → x5.length ≤ 30000 → (err ≠ 0 → r = (err, (n : Int), [])) → (err = 0 → Ev (tailS s m x5 (x7 ++ [f]) n) r) → Ev (fun k => spec_ReadSeparated.l1 k s m x5 (i : Int) x7) r := by
  have hw : wrap64 ((i : Int) + 1) = (i : Int) + 1 := wrap_id (by omega) (by omega)
  have e1 : ((i + 1 : Nat) : Int) = (i : Int) + 1 := rfl
  by_cases hq : i < s.size ∧ bt s (i : Int) = 34
  · obtain ⟨f, n, err, h1, h2, h3, h4⟩ := quotedBoth s m hs hm (s.size - (i + 1)) (i + 1) [] (by omega) (by simp)
    have hn : i ≤ n := by have := h1.2; omega
    refine ⟨f, n, err, h1.1, hn, fun he => (h2 he).2, ?_, fun x5 x7 r h7 h5 hr1 hr2 => ?_⟩
    · obtain ⟨K, hK⟩ := h3
      refine ⟨K + 2, fun k hk => ?_⟩
      obtain ⟨k, rfl⟩ : ∃ m, k = m + 1 := ⟨k - 1, by omega⟩
      have hK2 := hK k (by omega)
      simp only at hK2
      rw [e1] at hK2
      unfold impl_separatedField.f
      simp only [impl_separatedField.j0]
      rw [if_pos (by omega), if_pos (by omega), if_pos (by rw [hq.2]; rfl), hw]; exact hK2
    · obtain ⟨K, hK⟩ := h4 x5 x7 r h7 h5 hr1 hr2
      refine ⟨K + 3, fun k hk => ?_⟩
      obtain ⟨k, rfl⟩ : ∃ m, k = m + 1 + 1 := ⟨k - 2, by omega⟩
      have hK2 := hK k (by omega)
      simp only at hK2
      rw [e1] at hK2
      simp only [spec_ReadSeparated.l1, spec_ReadSeparated.j3]
      rw [if_pos (by omega), if_pos (by omega), if_pos (by rw [hq.2]; rfl), hw]; exact hK2
  · obtain ⟨f, n, err, h1, h2, h3, h4, h5⟩ := plainBoth s m hs hm i (s.size - i) i (by omega) (Nat.le_refl _)
    have hp : piece s i i = [] := by unfold piece; rw [Nat.sub_self, List.take_zero]
    refine ⟨f, n, err, h1, h2, h3, ?_, fun x5 x7 r h7 h8 hr1 hr2 => ?_⟩
    · obtain ⟨K, hK⟩ := h4
      refine ⟨K + 2, fun k hk => ?_⟩
      obtain ⟨k, rfl⟩ : ∃ m, k = m + 1 := ⟨k - 1, by omega⟩
      have hK2 := hK k (by omega)
      unfold impl_separatedField.f
      simp only [impl_separatedField.j0]
      by_cases a : i < s.size
      · rw [if_pos (by omega), if_pos (by omega), if_neg (by simpa using fun b => hq ⟨a, b⟩)]; exact hK2
      · rw [if_neg (by omega), if_neg (by simp)]; exact hK2
    · obtain ⟨K, hK⟩ := h5 x5 x7 r h7 h8 hr1 hr2
      rw [hp] at hK
      refine ⟨K + 3, fun k hk => ?_⟩
      obtain ⟨k, rfl⟩ : ∃ m, k = m + 1 + 1 := ⟨k - 2, by omega⟩
      have hK2 := hK k (by omega)
      simp only [spec_ReadSeparated.l1, spec_ReadSeparated.j3]
      by_cases a : i < s.size
      · rw [if_pos (by omega), if_pos (by omega), if_neg (by simpa using fun b => hq ⟨a, b⟩)]; exact hK2
      · rw [if_neg (by omega), if_neg (by simp)]; exact hK2
def tailI (s m : ByteArray) (x5 : List (List ByteArray)) (y : List ByteArray) (n : Nat) (k : Nat) : Option (Int × Int × List (List ByteArray)) :=
  if n < s.size then (if bt s (n : Int) = bt m 0 then impl_ReadSeparated.l1 k s m x5 ((n : Int) + 1) y else impl_ReadSeparated.l0 k s m (x5 ++ [y]) ((n : Int) + endV s n)) else impl_ReadSeparated.l0 k s m (x5 ++ [y]) (n : Int)
theorem implL1 (s m : ByteArray) (hs : s.size ≤ 20000) (hm : 0 < m.size) (i n : Nat) (f : ByteArray) (err : Int) (hn : n ≤ s.size) (x5 : List (List ByteArray)) (x7 : List ByteArray) (r : Int × Int × List (List ByteArray)) (h7 : x7.length ≤ 30000) (h5 : x5.length ≤ 30000)
    (hf : Ev (fun k => impl_separatedField.f k s (i : Int) (bt m 0)) (f, ((n : Nat) : Int), err)) (hr1 : err ≠ 0 → r = (err, (n : Int), [])) (hr2 : err = 0 → Ev (tailI s m x5 (x7 ++ [f]) n) r) : Ev (fun k => impl_ReadSeparated.l1 k s m x5 (i : Int) x7) r := by
  have hw : wrap64 ((n : Int) + 1) = (n : Int) + 1 := wrap_id (by omega) (by omega)
  have he := endV_rng s n
  have hw2 : wrap64 ((n : Int) + endV s n) = (n : Int) + endV s n := wrap_id (by omega) (by omega)
  obtain ⟨K, hK⟩ := hf
  simp only at hK
  by_cases h0 : err = 0
  · obtain ⟨K2, hK2⟩ := hr2 h0
    refine ⟨K + K2 + 1, fun k hk => ?_⟩
    obtain ⟨k, rfl⟩ : ∃ m, k = m + 1 := ⟨k - 1, by omega⟩
    have h := hK2 k (by omega)
    unfold tailI at h
    simp only [impl_ReadSeparated.l1]
    rw [if_pos (by omega), hK k (by omega)]
    simp only [Option.bind_some]
    rw [if_pos h0, if_pos (by omega)]
    by_cases a : n < s.size
    · rw [if_pos a] at h
      rw [if_pos (by omega), if_pos (by omega)]
      by_cases b : bt s (n : Int) = bt m 0
      · rw [if_pos b] at h
        rw [if_pos b, hw]; exact h
      · rw [if_neg b] at h
        rw [if_neg b, if_pos (by omega), implEnd s hs n hn]
        simp only [Option.bind_some]
        rw [hw2]; exact h
    · rw [if_neg a] at h
      rw [if_neg (by omega), if_pos (by omega)]; exact h
  · obtain rfl := hr1 h0
    refine ⟨K + 1, fun k hk => ?_⟩
    obtain ⟨k, rfl⟩ : ∃ m, k = m + 1 := ⟨k - 1, by omega⟩
    simp only [impl_ReadSeparated.l1]
    rw [if_pos (by omega), hK k (by omega)]
    simp only [Option.bind_some]
    rw [if_neg h0]
theorem l0_end (s m : ByteArray) (x5 : List (List ByteArray)) : Ev (fun k => impl_ReadSeparated.l0 k s m x5 (s.size : Int)) (0, 0, x5) ∧ Ev (fun k => spec_ReadSeparated.l0 k s m x5 (s.size : Int)) (0, 0, x5) := by
  refine ⟨Ev.step (f := fun _ => some (0, 0, x5)) (fun k => ?_) (Ev.now _), Ev.step (f := fun _ => some (0, 0, x5)) (fun k => ?_) (Ev.now _)⟩
  · rw [impl_ReadSeparated.l0, if_neg (by omega)]
  · rw [spec_ReadSeparated.l0, if_neg (by omega)]
theorem cellsOf_snoc : ∀ (l : List (List ByteArray)) (y : List ByteArray), cellsOf (l ++ [y]) = cellsOf l + (y.length : Int)
  | [], y => by show (y.length : Int) + 0 = 0 + _; omega
  | x :: l, y => by rw [List.cons_append, cellsOf_cons, cellsOf_cons, cellsOf_snoc l y]; omega
theorem rowsBoth (s m : ByteArray) (hs : s.size ≤ 20000) (hm : 0 < m.size) : ∀ (d i : Nat), i + d = s.size → ∀ (x5 : List (List ByteArray)) (x7 : List ByteArray), x5.length ≤ i → x7.length ≤ i → cellsOf x5 + (x7.length : Int) ≤ (i : Int) →
    ∃ r, (r.2.2.length ≤ s.size + 1 ∧ cellsOf r.2.2 ≤ (s.size : Int) + 1) ∧ Ev (fun k => impl_ReadSeparated.l1 k s m x5 (i : Int) x7) r ∧ Ev (fun k => spec_ReadSeparated.l1 k s m x5 (i : Int) x7) r := by
  intro d
  induction d using Nat.strongRecOn with
  | _ d ih =>
    intro i hi x5 x7 h5 h7 h6
    have l0 : ∀ (n : Nat) (x : List (List ByteArray)), i < n → n ≤ s.size → x.length ≤ n → cellsOf x ≤ (n : Int) → ∃ r, (r.2.2.length ≤ s.size + 1 ∧ cellsOf r.2.2 ≤ (s.size : Int) + 1) ∧ Ev (fun k => impl_ReadSeparated.l0 k s m x (n : Int)) r ∧ Ev (fun k => spec_ReadSeparated.l0 k s m x (n : Int)) r := fun n x hn1 hn2 hx hx2 => by
      by_cases e : n = s.size
      · subst e; exact ⟨(0, 0, x), ⟨by show x.length ≤ _; omega, by show cellsOf x ≤ _; omega⟩, l0_end s m x⟩
      · obtain ⟨r, hb, h1, h2⟩ := ih (s.size - n) (by omega) n (by omega) x [] hx (by simp) (by simp; omega)
        refine ⟨r, hb, Ev.step (fun k => ?_) h1, Ev.step (fun k => ?_) h2⟩
        · rw [impl_ReadSeparated.l0, if_pos (by omega)]
        · rw [spec_ReadSeparated.l0, if_pos (by omega)]
    obtain ⟨f, n, err, hn, hin, hend, hfi, hfs⟩ := fieldBoth s m hs hm i (by omega)
    have he := endV_rng s n
    by_cases h0 : err = 0
    · have hlen : (x7 ++ [f]).length = x7.length + 1 := by simp
      have hlen5 : ∀ y, (x5 ++ [y]).length = x5.length + 1 := fun y => by simp
      have hc1 : cellsOf (x5 ++ [x7 ++ [f]]) = cellsOf x5 + ((x7.length : Int) + 1) := by rw [cellsOf_snoc, hlen]; omega
      have ht : ∃ r, (r.2.2.length ≤ s.size + 1 ∧ cellsOf r.2.2 ≤ (s.size : Int) + 1) ∧ Ev (tailI s m x5 (x7 ++ [f]) n) r ∧ Ev (tailS s m x5 (x7 ++ [f]) n) r := by
        unfold tailI tailS
        by_cases a : n < s.size
        · by_cases b : bt s (n : Int) = bt m 0
          · obtain ⟨r, hb, h1, h2⟩ := ih (s.size - (n + 1)) (by omega) (n + 1) (by omega) x5 (x7 ++ [f]) (by omega) (by omega) (by omega)
            exact ⟨r, hb, Ev.congr (fun k => by rw [if_pos a, if_pos b]; rfl) h1, Ev.congr (fun k => by rw [if_pos a, if_pos b]; rfl) h2⟩
          · have hne : endV s n ≠ 0 := by
              rcases hend h0 with q | q | q
              · omega
              · exact absurd q b
              · exact q
            obtain ⟨t, ht⟩ : ∃ t : Nat, (n : Int) + endV s n = (t : Int) := ⟨((n : Int) + endV s n).toNat, by omega⟩
            have h3 := he.2.2 hne
            obtain ⟨r, hb, h1, h2⟩ := l0 t (x5 ++ [x7 ++ [f]]) (by omega) (by omega) (by rw [hlen5]; omega) (by omega)
            exact ⟨r, hb, Ev.congr (fun k => by rw [if_pos a, if_neg b, ht]) h1, Ev.congr (fun k => by rw [if_pos a, if_neg b, ht]) h2⟩
        · obtain rfl : n = s.size := by omega
          have := l0_end s m (x5 ++ [x7 ++ [f]])
          exact ⟨(0, 0, x5 ++ [x7 ++ [f]]), ⟨by show (x5 ++ [x7 ++ [f]]).length ≤ _; rw [hlen5]; omega, by show cellsOf (x5 ++ [x7 ++ [f]]) ≤ _; omega⟩, Ev.congr (fun k => by rw [if_neg a]) this.1, Ev.congr (fun k => by rw [if_neg a]) this.2⟩
      obtain ⟨r, hb, h1, h2⟩ := ht
      exact ⟨r, hb, implL1 s m hs hm i n f err hn x5 x7 r (by omega) (by omega) hfi (fun h => absurd h0 h) (fun _ => h1), hfs x5 x7 r (by omega) (by omega) (fun h => absurd h0 h) (fun _ => h2)⟩
    · exact ⟨(err, (n : Int), []), ⟨by simp, by show (0 : Int) ≤ _; omega⟩, implL1 s m hs hm i n f err hn x5 x7 _ (by omega) (by omega) hfi (fun _ => rfl) (fun h => absurd h h0), hfs x5 x7 _ (by omega) (by omega) (fun _ => rfl) (fun h => absurd h h0)⟩
theorem markPos (m : ByteArray) (h : spec_l14Mark.f m = some true) : 0 < m.size := by
  rcases Nat.eq_zero_or_pos m.size with h0 | h0
  · exfalso
    have e : m.toList = ([] : List UInt8) := by
      rw [ByteArray.toList_eq]
      have : m.data.toList.length = 0 := by rw [Array.length_toList]; exact h0
      exact List.eq_nil_of_length_eq_zero this
    unfold spec_l14Mark.f at h
    rw [e] at h
    simp at h
  · exact h0
theorem readBoth (s m : ByteArray) : ∃ r, (r.2.2.length ≤ 30000 ∧ cellsOf r.2.2 ≤ 30000) ∧ Ev (fun k => impl_ReadSeparated.f k s m) r ∧ Ev (fun k => spec_ReadSeparated.f k s m) r := by
  have hsame : impl_isMark.f m = spec_l14Mark.f m := rfl
  unfold impl_ReadSeparated.f spec_ReadSeparated.f
  by_cases hs : (s.size : Int) > 20000
  · exact ⟨(3, 0, []), ⟨by simp, by decide⟩, Ev.congr (fun k => by rw [if_pos hs]) (Ev.step (f := fun _ => some (3, 0, [])) (fun k => by rw [impl_ReadSeparated.j0, if_pos rfl]) (Ev.now _)), Ev.congr (fun k => by rw [if_pos hs]) (Ev.step (f := fun _ => some (3, 0, [])) (fun k => by rw [spec_ReadSeparated.j0, if_pos rfl]) (Ev.now _))⟩
  · obtain ⟨b, hb⟩ : ∃ b, spec_l14Mark.f m = some b := by
      unfold spec_l14Mark.f; split
      · exact ⟨_, rfl⟩
      · split <;> exact ⟨_, rfl⟩
    rw [hsame, hb]
    cases b with
    | false =>
      exact ⟨(3, 0, []), ⟨by simp, by decide⟩, Ev.congr (f := fun k => impl_ReadSeparated.j0 k s m true) (fun k => by rw [if_neg hs]; rfl) (Ev.step (f := fun _ => some (3, 0, [])) (fun k => by rw [impl_ReadSeparated.j0, if_pos rfl]) (Ev.now _)), Ev.congr (f := fun k => spec_ReadSeparated.j0 k s m true) (fun k => by rw [if_neg hs]; rfl) (Ev.step (f := fun _ => some (3, 0, [])) (fun k => by rw [spec_ReadSeparated.j0, if_pos rfl]) (Ev.now _))⟩
    | true =>
      have hm := markPos m hb
      have h0 : ∃ r, (r.2.2.length ≤ 30000 ∧ cellsOf r.2.2 ≤ 30000) ∧ Ev (fun k => impl_ReadSeparated.l0 k s m [] 0) r ∧ Ev (fun k => spec_ReadSeparated.l0 k s m [] 0) r := by
        by_cases hz : s.size = 0
        · have := l0_end s m []
          rw [hz] at this
          exact ⟨(0, 0, []), ⟨by simp, by decide⟩, this⟩
        · obtain ⟨r, hb, h1, h2⟩ := rowsBoth s m (by omega) hm s.size 0 (by omega) [] [] (by simp) (by simp) (by decide)
          refine ⟨r, ⟨by have := hb.1; omega, by have := hb.2; omega⟩, Ev.step (fun k => ?_) h1, Ev.step (fun k => ?_) h2⟩
          · rw [impl_ReadSeparated.l0, if_pos (by omega)]; rfl
          · rw [spec_ReadSeparated.l0, if_pos (by omega)]; rfl
      obtain ⟨r, hb, h1, h2⟩ := h0
      exact ⟨r, hb, Ev.congr (f := fun k => impl_ReadSeparated.j0 k s m false) (fun k => by rw [if_neg hs]; rfl) (Ev.step (fun k => by rw [impl_ReadSeparated.j0, if_neg (by simp)]) h1), Ev.congr (f := fun k => spec_ReadSeparated.j0 k s m false) (fun k => by rw [if_neg hs]; rfl) (Ev.step (fun k => by rw [spec_ReadSeparated.j0, if_neg (by simp)]) h2)⟩
theorem eqStringS_ev (l : List ByteArray) (hl : l.length ≤ 30000) : Ev (fun k => laws_eqStringS.f k l l) true := by
  unfold laws_eqStringS.f
  refine Ev.congr (f := fun k => laws_eqStringS.l0 k l l 0) (fun k => by rw [if_pos rfl]) ?_
  have g : ∀ (d i : Nat), i + d = l.length → Ev (fun k => laws_eqStringS.l0 k l l (i : Int)) true := by
    intro d
    induction d with
    | zero =>
      intro i hi
      refine Ev.step (f := fun _ => some true) (fun k => ?_) (Ev.now _)
      rw [laws_eqStringS.l0, if_neg (by omega)]
    | succ d ih =>
      intro i hi
      refine Ev.step (fun k => ?_) (ih (i + 1) (by omega))
      rw [laws_eqStringS.l0, if_pos (by omega), if_pos (by omega), if_pos (by omega), if_pos rfl, wrap_id (x := (i : Int) + 1) (by omega) (by omega)]; rfl
  exact g l.length 0 (by omega)
theorem cells_mem : ∀ (l : List (List ByteArray)) (r : List ByteArray), r ∈ l → (r.length : Int) ≤ cellsOf l
  | x :: l, r, h => by
    have hn := cellsOf_nn l
    rw [cellsOf_cons]
    rcases List.mem_cons.1 h with rfl | h
    · omega
    · have := cells_mem l r h; omega
theorem rdL_at (l : List (List ByteArray)) (i : Nat) (h : i < l.length) : rd_L1 l (i : Int) = l[i] := by
  unfold rd_L1; rw [Int.toNat_natCast, List.getD_eq_getElem?_getD, List.getElem?_eq_getElem h]; rfl
theorem eqStringSS_ev (l : List (List ByteArray)) (hl : l.length ≤ 30000) (hc : cellsOf l ≤ 30000) : Ev (fun k => laws_eqStringSS.f k l l) true := by
  unfold laws_eqStringSS.f
  refine Ev.congr (f := fun k => laws_eqStringSS.l0 k l l 0) (fun k => by rw [if_pos rfl]) ?_
  have g : ∀ (d i : Nat), i + d = l.length → Ev (fun k => laws_eqStringSS.l0 k l l (i : Int)) true := by
    intro d
    induction d with
    | zero =>
      intro i hi
      refine Ev.step (f := fun _ => some true) (fun k => ?_) (Ev.now _)
      rw [laws_eqStringSS.l0, if_neg (by omega)]
    | succ d ih =>
      intro i hi
      have hr := cells_mem l l[i] (List.getElem_mem (by omega))
      have he := eqStringS_ev (l[i]'(by omega)) (by omega)
      refine Ev.step (f := fun k => (laws_eqStringS.f k (l[i]'(by omega)) (l[i]'(by omega))).bind fun t => if t = true then laws_eqStringSS.l0 k l l ((i + 1 : Nat) : Int) else some false) (fun k => ?_) (Ev.bind he (Ev.congr (fun k => by rw [if_pos rfl]) (ih (i + 1) (by omega))))
      rw [laws_eqStringSS.l0, if_pos (by omega), if_pos (by omega), if_pos (by omega), rdL_at l i (by omega), wrap_id (x := (i : Int) + 1) (by omega) (by omega)]; rfl
  exact g l.length 0 (by omega)
theorem eqRes_ev (r : Int × Int × List (List ByteArray)) (hl : r.2.2.length ≤ 30000) (hc : cellsOf r.2.2 ≤ 30000) : Ev (fun k => laws_eqSeparatedRes.f k r.1 r.2.1 r.2.2 r.1 r.2.1 r.2.2) true := by
  unfold laws_eqSeparatedRes.f
  have hx : Ev (fun k => (laws_eqStringSS.f k r.2.2 r.2.2).bind fun t178 => (if t178 = true then (some true) else (some false))) true := Ev.bind (eqStringSS_ev r.2.2 hl hc) (Ev.congr (f := fun _ => some true) (fun k => by rw [if_pos rfl]) (Ev.now _))
  exact Ev.congr (fun k => by rw [if_pos rfl, if_pos rfl]) hx
theorem heldRow : ∀ (rest pre : List ByteArray) (i : Nat) (a : Int), pre.length = i → i + rest.length ≤ 4000000000000 → 1 ≤ a → a + (rest.length : Int) ≤ 4000000000000 → Ev (fun k => laws_heldStringS.l0 k (pre ++ markRow rest a) a (i : Int)) (a + (rest.length : Int))
  | [], pre, i, a, hp, hi, h1, h2 => by
    refine Ev.step (f := fun _ => some (a + (([] : List ByteArray).length : Int))) (fun k => ?_) (Ev.now _)
    rw [laws_heldStringS.l0, if_neg (by simp [markRow]; omega)]; simp
  | r :: rest, pre, i, a, hp, hi, h1, h2 => by
    simp only [List.length_cons] at hi h2
    have ih := heldRow rest (pre ++ [mkT a]) (i + 1) (a + 1) (by simp; omega) (by omega) (by omega) (by omega)
    have e : pre ++ markRow (r :: rest) a = pre ++ [mkT a] ++ markRow rest (a + 1) := by simp [markRow]
    have hg : rdOf ByteArray.empty (pre ++ [mkT a] ++ markRow rest (a + 1)) (i : Int) = mkT a := by
      unfold rdOf
      rw [Int.toNat_natCast, List.getD_eq_getElem?_getD, List.getElem?_append_left (by simp; omega), List.getElem?_append_right (by omega), hp, Nat.sub_self]; rfl
    have hlen : (i : Int) < ((pre ++ [mkT a] ++ markRow rest (a + 1)).length : Int) := by simp; omega
    obtain ⟨K, hK⟩ := ih
    refine ⟨K + 41, fun k hk => ?_⟩
    obtain ⟨k, rfl⟩ : ∃ m, k = m + 1 := ⟨k - 1, by omega⟩
    simp only
    rw [e, laws_heldStringS.l0, if_pos hlen, if_pos (by omega), ms_text a (by omega) k (by omega)]
    simp only [Option.bind_some]
    rw [hg, if_pos rfl, wrap_id (x := a + 1) (by omega) (by omega), wrap_id (x := (i : Int) + 1) (by omega) (by omega)]
    have := hK k (by omega)
    simp only at this
    rw [show (((i + 1 : Nat)) : Int) = (i : Int) + 1 from rfl] at this
    rw [this, List.length_cons, show a + 1 + (rest.length : Int) = a + ((rest.length + 1 : Nat) : Int) from by omega]
theorem heldRows : ∀ (rest pre : List (List ByteArray)) (i : Nat) (a : Int), pre.length = i → i + rest.length ≤ 4000000000000 → 1 ≤ a → a + cellsOf rest ≤ 4000000000000 → Ev (fun k => laws_heldStringSS.l0 k (pre ++ markRows rest a) a (i : Int)) (a + cellsOf rest)
  | [], pre, i, a, hp, hi, h1, h2 => by
    refine Ev.step (f := fun _ => some (a + cellsOf [])) (fun k => ?_) (Ev.now _)
    rw [laws_heldStringSS.l0, if_neg (by simp [markRows]; omega)]
    show some a = some (a + 0); rw [Int.add_zero]
  | r :: rest, pre, i, a, hp, hi, h1, h2 => by
    simp only [List.length_cons] at hi
    rw [cellsOf_cons] at h2
    have hnn := cellsOf_nn rest
    have ih := heldRows rest (pre ++ [markRow r a]) (i + 1) (a + (r.length : Int)) (by simp; omega) (by omega) (by omega) (by omega)
    have hr := heldRow r [] 0 a rfl (by omega) h1 (by omega)
    have e : pre ++ markRows (r :: rest) a = pre ++ [markRow r a] ++ markRows rest (a + (r.length : Int)) := by simp [markRows]
    have hg : rd_L1 (pre ++ [markRow r a] ++ markRows rest (a + (r.length : Int))) (i : Int) = markRow r a := by
      unfold rd_L1
      rw [Int.toNat_natCast, List.getD_eq_getElem?_getD, List.getElem?_append_left (by simp; omega), List.getElem?_append_right (by omega), hp, Nat.sub_self]; rfl
    have hlen : (i : Int) < ((pre ++ [markRow r a] ++ markRows rest (a + (r.length : Int))).length : Int) := by simp; omega
    rw [e, cellsOf_cons]
    refine Ev.step (f := fun k => (laws_heldStringS.f k (markRow r a) a).bind fun t => if t < 0 then some (-1) else laws_heldStringSS.l0 k (pre ++ [markRow r a] ++ markRows rest (a + (r.length : Int))) t ((i + 1 : Nat) : Int)) (fun k => ?_) (Ev.bind hr (Ev.congr (fun k => by rw [if_neg (by omega)]) ?_))
    · rw [laws_heldStringSS.l0, if_pos hlen, if_pos (by omega), hg, wrap_id (x := (i : Int) + 1) (by omega) (by omega)]; rfl
    · rw [show a + ((r.length : Int) + cellsOf rest) = a + (r.length : Int) + cellsOf rest from by omega]; exact ih
theorem FnExactReadSeparated : ∀ (a0 : ByteArray) (a1 : ByteArray), a0.size ≤ maxLen → a1.size ≤ maxLen → ∃ k, laws_FnExactReadSeparated.f k a0 a1 = some true := by
  intro s m _ _
  refine Ev.rounds ?_
  unfold laws_FnExactReadSeparated.f
  by_cases h1 : (s.size : Int) > 1048576
  · exact Ev.congr (f := fun _ => some true) (fun k => by rw [if_pos h1]) (Ev.now _)
  by_cases h2 : (m.size : Int) > 1048576
  · exact Ev.congr (f := fun _ => some true) (fun k => by rw [if_neg h1, if_pos h2]) (Ev.now _)
  obtain ⟨r, hb, hi, hs⟩ := readBoth s m
  have heq := eqRes_ev r hb.1 hb.2
  have hnn := cellsOf_nn r.2.2
  have hmk : laws_markSeparatedRes.f r.1 r.2.1 r.2.2 1 = some (1 + cellsOf r.2.2, markRows r.2.2 1) := by unfold laws_markSeparatedRes.f; rw [if_pos ⟨by omega, by have := hb.2; omega⟩]
  have hh : Ev (fun k => laws_heldSeparatedRes.f k r.1 r.2.1 (markRows r.2.2 1) 1) (1 + cellsOf r.2.2) := by
    unfold laws_heldSeparatedRes.f
    have h3 : Ev (fun k => laws_heldStringSS.f k (markRows r.2.2 1) 1) (1 + cellsOf r.2.2) := heldRows r.2.2 [] 0 1 rfl (by have := hb.1; omega) (by omega) (by have := hb.2; omega)
    exact Ev.bind h3 (Ev.congr (f := fun _ => some (1 + cellsOf r.2.2)) (fun k => by rw [if_neg (by omega)]) (Ev.now _))
  refine Ev.congr (fun k => by rw [if_neg h1, if_neg h2]) (Ev.bind hs (Ev.bind hi (Ev.bind heq ?_)))
  have hx : Ev (fun k => (laws_heldSeparatedRes.f k r.1 r.2.1 (markRows r.2.2 1) 1).bind fun t209 => (if t209 < 0 then (some false) else (if t209 = 1 + cellsOf r.2.2 then ((impl_ReadSeparated.f k s m).bind fun bt210 => ((laws_eqSeparatedRes.f k bt210.1 bt210.2.1 bt210.2.2 r.1 r.2.1 r.2.2).bind fun t216 => (if t216 = true then ((laws_heldSeparatedRes.f k r.1 r.2.1 (markRows r.2.2 1) 1).bind fun t217 => (if t217 < 0 then (some false) else (if t217 = 1 + cellsOf r.2.2 then (some true) else (some false)))) else (some false)))) else (some false)))) true := by
    refine Ev.bind hh ?_
    refine Ev.congr (fun k => by rw [if_neg (by omega), if_pos rfl]) (Ev.bind hi ?_)
    refine Ev.bind heq ?_
    refine Ev.congr (fun k => by rw [if_pos rfl]) (Ev.bind hh ?_)
    exact Ev.congr (f := fun _ => some true) (fun k => by rw [if_neg (by omega), if_pos rfl]) (Ev.now _)
  refine Ev.congr (fun k => ?_) hx
  rw [if_pos rfl, hmk]
  simp only [Option.bind_some]

end Go.Proofs.Ytojfkjggpdlngaa.Pure
