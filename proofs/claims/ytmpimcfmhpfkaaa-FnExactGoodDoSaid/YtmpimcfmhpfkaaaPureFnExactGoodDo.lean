/- The plain law of FnExactGoodDo: what the program computes is what the reference computes, for every input (no further condition). -/
import Derived.Test.YtmpimcfmhpfkaaaMFnExactGoodDoa9
namespace Go.Proofs.Ytmpimcfmhpfkaaa.Pure
open Go.RowKit Go.Proofs.Ytmpimcfmhpfkaaa.PFnExactGoodDo Go.Proofs.YtmpimcfmhpfkaaaW.PrintWords Go.Proofs.YtmpimcfmhpfkaaaW.PrintLast

set_option linter.unusedVariables false
set_option linter.unusedSimpArgs false
/-! plain facts on whole numbers -/
theorem wrap_id {x : Int} (h1 : -9223372036854775808 ≤ x) (h2 : x ≤ 9223372036854775807) : wrap64 x = x := by
  unfold wrap64; omega
theorem td_pos {a b : Int} (h : 0 ≤ a) : a.tdiv b = a / b := Int.tdiv_eq_ediv_of_nonneg h
theorem td_neg {a b : Int} (h : a ≤ 0) : a.tdiv b = -((-a) / b) := by
  rw [← Int.tdiv_eq_ediv_of_nonneg (by omega : 0 ≤ -a), Int.neg_tdiv]; omega
theorem tm_pos {a b : Int} (h : 0 ≤ a) : a.tmod b = a % b := Int.tmod_eq_emod_of_nonneg h
theorem tm_neg {a b : Int} (h : a ≤ 0) : a.tmod b = -((-a) % b) := by
  rw [← Int.tmod_eq_emod_of_nonneg (by omega : 0 ≤ -a), Int.neg_tmod]; omega
theorem tm_zero (a b : Int) : a.tmod b = 0 ↔ a % b = 0 := by
  rw [← Int.dvd_iff_tmod_eq_zero, ← Int.dvd_iff_emod_eq_zero]
theorem ediv_is {a b q r : Int} (hb : 0 < b) (h : a = b * q + r) (h0 : 0 ≤ r) (h1 : r < b) : a / b = q := by
  rw [h, Int.add_comm, Int.add_mul_ediv_left _ _ (by omega), Int.ediv_eq_zero_of_lt h0 h1]; omega
theorem ediv_neg_of {a b : Int} (hb : 0 < b) (h : a.tmod b = 0) : a.tdiv b = a / b := by
  have e := Int.mul_tdiv_add_tmod a b
  rw [h] at e
  exact (ediv_is hb (q := a.tdiv b) (r := 0) (by omega) (by omega) hb).symm
theorem ediv_floor {a b : Int} (hb : 0 < b) (ha : a < 0) (h : a.tmod b ≠ 0) : a.tdiv b - 1 = a / b := by
  have e := Int.mul_tdiv_add_tmod a b
  have hm := tm_neg (a := a) (b := b) (by omega)
  have h0 := Int.emod_nonneg (-a) (by omega : b ≠ 0)
  have h1 := Int.emod_lt_of_pos (-a) hb
  refine (ediv_is hb (q := a.tdiv b - 1) (r := a.tmod b + b) ?_ (by omega) (by omega)).symm
  rw [Int.mul_sub]; omega
/-- The floor, as both programs reckon it. -/
theorem floor_is {a b : Int} (hb : 0 < b) (h1 : -4611686018427387904 ≤ a) (h2 : a ≤ 4611686018427387904) :
    (if b = 0 then (none) else (if (Int.tmod a b) = 0 then (some (wrap64 (Int.tdiv a b))) else (if ((decide (a < 0)) != (decide (b < 0))) = true then (some (wrap64 ((wrap64 (Int.tdiv a b)) - 1))) else (some (wrap64 (Int.tdiv a b)))))) = some (a / b) := by
  have hle : a / b ≤ 4611686018427387904 := by
    by_cases h : 0 ≤ a
    · exact Int.le_trans (Int.ediv_le_self b h) h2
    · have := Int.ediv_neg_of_neg_of_pos (by omega : a < 0) hb; omega
  have hge : -4611686018427387904 ≤ a / b := by
    by_cases h : 0 ≤ a
    · have := Int.ediv_nonneg h (by omega : 0 ≤ b); omega
    · exact Int.le_ediv_of_mul_le hb (by have : -4611686018427387904 * b ≤ -4611686018427387904 * 1 := by omega
                                         omega)
  rw [if_neg (by omega : ¬ b = 0)]
  by_cases hm : Int.tmod a b = 0
  · rw [if_pos hm, ediv_neg_of hb hm, wrap_id (by omega) (by omega)]
  · rw [if_neg hm]
    by_cases ha : a < 0
    · have e := ediv_floor hb ha hm
      rw [if_pos (by simp [ha]; omega), wrap_id (x := Int.tdiv a b) (by omega) (by omega), e, wrap_id (by omega) (by omega)]
    · rw [if_neg (by simp [ha]; omega), td_pos (by omega), wrap_id (by omega) (by omega)]

/-! plain facts on texts as lists of numbers -/
theorem u8_back (b : UInt8) : UInt8.ofNat ((b.toNat : Int)).toNat = b := by simp
theorem strOfNums_bytesOf (s : ByteArray) : strOfNums (bytesOf s) = s := by
  cases s with | mk d =>
  unfold strOfNums bytesOf
  congr 1
  rw [List.map_map]
  have : ((fun n : Int => UInt8.ofNat n.toNat) ∘ fun b : UInt8 => (b.toNat : Int)) = id := by funext b; exact u8_back b
  rw [this, List.map_id]
def okL (xs : List Int) : Prop := ∀ x ∈ xs, 0 ≤ x ∧ x < 256
theorem bytesOf_strOfNums (xs : List Int) (h : okL xs) : bytesOf (strOfNums xs) = xs := by
  unfold bytesOf
  rw [strOfNums_data, List.map_map]
  conv => rhs; rw [← List.map_id xs]
  refine List.map_congr_left fun x hx => ?_
  have := h x hx
  simp only [Function.comp, UInt8.toNat_ofNat', id]
  omega
theorem okL_bytesOf (s : ByteArray) : okL (bytesOf s) := by
  intro x hx
  obtain ⟨b, _, rfl⟩ := List.mem_map.1 hx
  have := b.toNat_lt
  omega
theorem strOfNums_app (xs ys : List Int) : strOfNums xs ++ strOfNums ys = strOfNums (xs ++ ys) := by
  apply ByteArray.ext
  rw [ByteArray.data_append]
  simp [strOfNums]
theorem bytesOf_inj {s t : ByteArray} (h : bytesOf s = bytesOf t) : s = t := by
  rw [← strOfNums_bytesOf s, ← strOfNums_bytesOf t, h]
theorem toList_iff (s t : ByteArray) : s.toList = t.toList ↔ bytesOf s = bytesOf t := by
  rw [ByteArray.toList_eq, ByteArray.toList_eq]
  constructor
  · intro h; unfold bytesOf; rw [h]
  · intro h; rw [bytesOf_inj h]
theorem bt_of (s : ByteArray) (L : List Int) (h : bytesOf s = L) (i : Int) : bt s i = rd L i := by
  rw [← h, rd_bytesOf]
theorem size_of' (s : ByteArray) (L : List Int) (h : bytesOf s = L) : s.size = L.length := by
  rw [← h, bytesOf_length]

def goodRefB (r c : Int) : Bool := decide (1 ≤ r ∧ r ≤ 1000 ∧ 1 ≤ c ∧ c ≤ 200)
theorem specGoodRef_is (r c : Int) (a b : Bool) : spec_GoodRef.f r c a b = some (goodRefB r c) := by
  unfold spec_GoodRef.f goodRefB
  by_cases h1 : 1 ≤ r <;> by_cases h2 : r ≤ 1000 <;> by_cases h3 : 1 ≤ c <;> by_cases h4 : c ≤ 200 <;> simp [h1, h2, h3, h4]

def mostI (k : Int) : Int := if k = 1 then 1000 else 200
/-- What GoodTurn says. -/
def goodTurnB (k a m : Int) (d : Bool) : Bool := decide ((k = 1 ∨ k = 2) ∧ 1 ≤ a ∧ a ≤ mostI k ∧ 1 ≤ m ∧ m ≤ 100 ∧ (d = true → a + m - 1 ≤ mostI k))
theorem most_le (k : Int) : 200 ≤ mostI k ∧ mostI k ≤ 1000 := by unfold mostI; split <;> omega
theorem implMost_is (k a m : Int) (d : Bool) : impl_Turn_most.f k a m d = some (mostI k) := by
  unfold impl_Turn_most.f mostI; split <;> rfl
theorem specMost_is (k : Int) : spec_l5Limit.f k = some (mostI k) := by
  unfold spec_l5Limit.f mostI; split <;> rfl
theorem specGoodTurn_is (k a m : Int) (d : Bool) : spec_GoodTurn.f k a m d = some (goodTurnB k a m d) := by
  unfold spec_GoodTurn.f goodTurnB
  have hm := most_le k
  simp only [specMost_is, Option.bind_some]
  by_cases k12 : k = 1 ∨ k = 2
  · have e : ∀ x : Option Bool, (if k = 1 then x else if k = 2 then x else some false) = x := by
      intro x; by_cases k1 : k = 1
      · rw [if_pos k1]
      · rw [if_neg k1, if_pos (by omega)]
    rw [e]
    by_cases m1 : m < 1
    · rw [if_pos m1]; congr 1; symm; rw [decide_eq_false_iff_not]; omega
    rw [if_neg m1]
    by_cases m2 : m > 100
    · rw [if_pos m2]; congr 1; symm; rw [decide_eq_false_iff_not]; omega
    rw [if_neg m2]
    by_cases a1 : a < 1
    · rw [if_pos a1]; congr 1; symm; rw [decide_eq_false_iff_not]; omega
    rw [if_neg a1]
    by_cases a2 : a > mostI k
    · rw [if_pos a2]; congr 1; symm; rw [decide_eq_false_iff_not]; omega
    rw [if_neg a2, wrap_id (x := a + m) (by omega) (by omega), wrap_id (x := a + m - 1) (by omega) (by omega)]
    cases d with
    | false => rw [if_neg (by decide)]; congr 1; symm; rw [decide_eq_true_eq]; exact ⟨k12, by omega, by omega, by omega, by omega, fun h => by cases h⟩
    | true =>
      rw [if_pos rfl]; congr 1
      rw [decide_eq_decide]
      exact ⟨fun h => ⟨k12, by omega, by omega, by omega, by omega, fun _ => h⟩, fun h => h.2.2.2.2.2 rfl⟩
  · rw [if_neg (by omega), if_neg (by omega)]; congr 1; symm; rw [decide_eq_false_iff_not]; omega
theorem implGoodTurn_is (k a m : Int) (d : Bool) : impl_GoodTurn.f k a m d = some (goodTurnB k a m d) := by
  unfold impl_GoodTurn.f goodTurnB
  have hm := most_le k
  simp only [implMost_is, Option.bind_some]
  by_cases k12 : k = 1 ∨ k = 2
  · have e : ∀ x : Option Bool, (if k = 1 then x else if k = 2 then x else some false) = x := by
      intro x; by_cases k1 : k = 1
      · rw [if_pos k1]
      · rw [if_neg k1, if_pos (by omega)]
    rw [e]
    by_cases a1 : a < 1
    · rw [if_pos a1]; congr 1; symm; rw [decide_eq_false_iff_not]; omega
    rw [if_neg a1]
    by_cases a2 : a > mostI k
    · rw [if_pos a2]; congr 1; symm; rw [decide_eq_false_iff_not]; omega
    rw [if_neg a2]
    by_cases m1 : m < 1
    · rw [if_pos m1]; congr 1; symm; rw [decide_eq_false_iff_not]; omega
    rw [if_neg m1]
    by_cases m2 : m > 100
    · rw [if_pos m2]; congr 1; symm; rw [decide_eq_false_iff_not]; omega
    rw [if_neg m2, wrap_id (x := a + m) (by omega) (by omega), wrap_id (x := a + m - 1) (by omega) (by omega)]
    cases d with
    | false => rw [if_neg (by decide)]; congr 1; symm; rw [decide_eq_true_eq]; exact ⟨k12, by omega, by omega, by omega, by omega, fun h => by cases h⟩
    | true =>
      rw [if_pos rfl]; congr 1
      rw [decide_eq_decide]
      exact ⟨fun h => ⟨k12, by omega, by omega, by omega, by omega, fun _ => h⟩, fun h => h.2.2.2.2.2 rfl⟩
  · rw [if_neg (by omega), if_neg (by omega)]; congr 1; symm; rw [decide_eq_false_iff_not]; omega

/-- Every byte of a text is printable. -/
def printB (s : ByteArray) : Bool := (bytesOf s).all fun c => decide (32 ≤ c ∧ c ≤ 126)
theorem bt_get (s : ByteArray) (i : Nat) (h : i < s.size) : (bytesOf s)[i]? = some (bt s i) := by
  rw [← rd_bytesOf]
  unfold rd
  rw [List.getD_eq_getElem?_getD, Int.toNat_natCast]
  rw [List.getElem?_eq_getElem (by rw [bytesOf_length]; exact h)]; rfl
/-- A loop that asks each byte of a text, and what it comes to. -/
theorem loop_bytes {F : Nat → Int → Option Bool} (s : ByteArray) (hs : s.size ≤ 9223372036854775806) (p : Int → Bool) (b : Bool)
    (hstep : ∀ (k : Nat) (i : Int), 0 ≤ i → i < s.size → F (k + 1) i = if p (bt s i) then F k (i + 1) else some false)
    (hend : ∀ k, F (k + 1) (s.size : Int) = some b) : ∀ (d k : Nat) (i : Nat), i + d = s.size → d < k → F k (i : Int) = some (((bytesOf s).drop i).all p && b) := by
  intro d
  induction d with
  | zero =>
    intro k i hi hk
    obtain ⟨k, rfl⟩ : ∃ m, k = m + 1 := ⟨k - 1, by omega⟩
    obtain rfl : i = s.size := by omega
    rw [hend, List.drop_of_length_le (by rw [bytesOf_length]; exact Nat.le_refl _)]; rfl
  | succ d ih =>
    intro k i hi hk
    obtain ⟨k, rfl⟩ : ∃ m, k = m + 1 := ⟨k - 1, by omega⟩
    have hlt : i < (bytesOf s).length := by rw [bytesOf_length]; omega
    rw [hstep k i (by omega) (by omega), List.drop_eq_getElem_cons hlt, List.all_cons]
    have e : (bytesOf s)[i] = bt s i := by
      have := bt_get s i (by omega)
      rw [List.getElem?_eq_getElem hlt] at this
      exact Option.some.inj this
    rw [e]
    cases hp : p (bt s i)
    · simp
    · rw [if_pos rfl, show ((i : Int) + 1) = ((i + 1 : Nat) : Int) from by omega, ih k (i + 1) (by omega) (by omega)]; simp

theorem specPrinted_is (s : ByteArray) (hs : s.size ≤ 1048576) (m : Int) (k : Nat) (hk : s.size < k) : spec_l4Printed.f k s m = some (printB s && decide ((s.size : Int) ≤ m)) := by
  unfold spec_l4Printed.f printB
  have h := loop_bytes (F := fun k i => spec_l4Printed.l0 k s m i) s (by omega) (fun c => decide (32 ≤ c ∧ c ≤ 126)) (decide ((s.size : Int) ≤ m)) ?_ ?_ s.size k 0 (by omega) hk
  · simpa using h
  · intro k i h0 h1
    simp only [spec_l4Printed.l0]
    rw [if_pos h1, if_pos h0, wrap_id (x := i + 1) (by omega) (by omega)]
    by_cases c1 : bt s i < 32
    · rw [if_pos c1, if_neg (by simp; omega)]
    · by_cases c2 : bt s i > 126
      · rw [if_neg c1, if_pos c2, if_neg (by simp; omega)]
      · rw [if_neg c1, if_neg c2, if_pos (by simp; omega)]
  · intro k
    simp only [spec_l4Printed.l0]
    rw [if_neg (by omega)]
theorem implPlain_is (s : ByteArray) (hs : s.size ≤ 1048576) (m : Int) (k : Nat) (hk : s.size < k) : impl_plainText.f k s m = some (printB s && decide ((s.size : Int) ≤ m)) := by
  unfold impl_plainText.f printB
  by_cases hm : (s.size : Int) > m
  · rw [if_pos hm, decide_eq_false (by omega : ¬ (s.size : Int) ≤ m)]; simp
  · rw [if_neg hm, decide_eq_true (by omega : (s.size : Int) ≤ m)]
    have h := loop_bytes (F := fun k i => impl_plainText.l0 k s i) s (by omega) (fun c => decide (32 ≤ c ∧ c ≤ 126)) true ?_ ?_ s.size k 0 (by omega) hk
    · simpa using h
    · intro k i h0 h1
      simp only [impl_plainText.l0]
      rw [if_pos h1, if_pos h0, wrap_id (x := i + 1) (by omega) (by omega)]
      by_cases c1 : bt s i < 32
      · rw [if_pos c1, if_neg (by simp; omega)]
      · by_cases c2 : bt s i > 126
        · rw [if_neg c1, if_pos c2, if_neg (by simp; omega)]
        · rw [if_neg c1, if_neg c2, if_pos (by simp; omega)]
    · intro k
      simp only [impl_plainText.l0]
      rw [if_neg (by omega)]

theorem implPlace_is (r c : Int) : impl_place_good.f r c = some (goodRefB r c) := by
  unfold impl_place_good.f goodRefB
  by_cases h1 : 1 ≤ r <;> by_cases h2 : r ≤ 1000 <;> by_cases h3 : 1 ≤ c <;> by_cases h4 : c ≤ 200 <;> simp [h1, h2, h3, h4]
theorem specPlace_is (r c : Int) : spec_l3Place.f r c = some (goodRefB r c) := by
  unfold spec_l3Place.f; rw [specGoodRef_is]; rfl
theorem goodDo_same (K : Nat) (a b r c : Int) (s : ByteArray) (t1 t2 t3 : Int) (t4 : Bool) (hs : s.size ≤ 1048576) :
    ∃ v, spec_GoodDo.f (s.size + 3) a b r c s t1 t2 t3 t4 = some v ∧ impl_GoodDo.f (s.size + 3) a b r c s t1 t2 t3 t4 = some v := by
  have p1 := specPrinted_is s hs 2000 (s.size + 2) (by omega)
  have p2 := implPlain_is s hs 2000 (s.size + 2) (by omega)
  have jf : spec_GoodDo.j0 (s.size + 2 + 1) true a b r c s t1 t2 t3 t4 = some false := rfl
  have jf2 : impl_GoodDo.j0 (s.size + 2 + 1) true a b r c s t1 t2 t3 t4 = some false := rfl
  unfold spec_GoodDo.f impl_GoodDo.f
  by_cases hz : (a == 0 && (b == 0 && ((r == 0 && (c == 0 && (s.toList == ([] : List UInt8)))) && ((t1 == 0 && (t2 == 0 && (t3 == 0 && (!t4)))))))) = true
  · rw [if_pos hz]
    have hz' := hz
    simp only [Bool.and_eq_true, beq_iff_eq] at hz'
    obtain ⟨ha, hb, _⟩ := hz'
    rw [if_neg (by omega), decide_eq_false (by omega : ¬ b > 99)]
    refine ⟨true, ?_, rfl⟩
    simp only [spec_GoodDo.j0]
    rw [if_neg (by decide), if_pos ha]
    rw [hz]
  · rw [if_neg hz]
    by_cases hb : b < 0
    · rw [if_pos hb, if_pos hb]; exact ⟨false, jf, jf2⟩
    · rw [if_neg hb, if_neg hb]
      by_cases hb2 : b > 99
      · rw [decide_eq_true hb2]; exact ⟨false, jf, jf2⟩
      · rw [decide_eq_false hb2]
        simp only [spec_GoodDo.j0, impl_GoodDo.j0, specPlace_is, implPlace_is, specGoodTurn_is, implGoodTurn_is, p1, p2, Option.bind_some, Bool.false_eq_true, if_false]
        by_cases h0 : a = 0
        · rw [if_pos h0, if_neg (by omega), if_neg (by omega)]
          exact ⟨_, rfl, by rw [Bool.eq_false_iff.2 hz]⟩
        · rw [if_neg h0]
          by_cases h1 : a = 1
          · simp only [if_pos h1]
            split
            · cases goodRefB r c
              · exact ⟨_, rfl, rfl⟩
              · exact ⟨_, rfl, rfl⟩
            · exact ⟨_, rfl, rfl⟩
          · simp only [if_neg h1]
            by_cases h2 : a = 2
            · simp only [if_pos h2]
              split
              · exact ⟨_, rfl, rfl⟩
              · exact ⟨_, rfl, rfl⟩
            · simp only [if_neg h2]; exact ⟨_, rfl, rfl⟩
theorem FnExactGoodDo : ∀ (a0_0 : Int) (a0_1 : Int) (a0_2 : Int) (a0_3 : Int) (a0_4 : ByteArray) (a0_5 : Int) (a0_6 : Int) (a0_7 : Int) (a0_8 : Bool), (Lit.int .i64 a0_0).wf = true → (Lit.int .i64 a0_1).wf = true → (Lit.int .i64 a0_2).wf = true → (Lit.int .i64 a0_3).wf = true → a0_4.size ≤ maxLen → (Lit.int .i64 a0_5).wf = true → (Lit.int .i64 a0_6).wf = true → (Lit.int .i64 a0_7).wf = true → ∃ k, laws_FnExactGoodDo.f k a0_0 a0_1 a0_2 a0_3 a0_4 a0_5 a0_6 a0_7 a0_8 = some true := by
  intro a b r c s t1 t2 t3 t4 _ _ _ _ hs _ _ _
  refine ⟨s.size + 3, ?_⟩
  unfold laws_FnExactGoodDo.f laws_szDo.f laws_szChange.f laws_toDo.f laws_toChange.f laws_toTurn.f
  unfold maxLen at hs
  rw [wrap_id (x := 1048576 - (s.size : Int)) (by omega) (by omega)]
  by_cases h : 1048576 - (s.size : Int) < 0
  · simp [h]
  · obtain ⟨v, e1, e2⟩ := goodDo_same 0 a b r c s t1 t2 t3 t4 (by omega)
    simp only [h, if_false, Option.bind_some, e1, e2]
    simp

end Go.Proofs.Ytmpimcfmhpfkaaa.Pure
