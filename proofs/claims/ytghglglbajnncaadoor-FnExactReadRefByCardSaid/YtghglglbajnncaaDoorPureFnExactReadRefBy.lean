/- The plain law of FnExactReadRefBy: what the program computes is what the reference computes, for every input (no further condition). -/
import Derived.Test.YtghglglbajnncaaDoorMFnExactReadRefBya8
namespace Go.Proofs.YtghglglbajnncaaDoor.Pure
open Go.RowKit Go.Proofs.YtghglglbajnncaaDoor.PFnExactReadRefBy Go.Proofs.YtghglglbajnncaaDoorW.PrintWords Go.Proofs.YtghglglbajnncaaDoorW.PrintLast

set_option linter.unusedVariables false
set_option linter.unusedSimpArgs false
/-! plain facts on whole numbers -/
theorem wrap_id {x : Int} (h1 : -9223372036854775808 ≤ x) (h2 : x ≤ 9223372036854775807) : wrap64 x = x := by
  unfold wrap64; omega
theorem td_pos {a b : Int} (h : 0 ≤ a) : a.tdiv b = a / b := Int.tdiv_eq_ediv_of_nonneg h
theorem td_neg {a b : Int} (h : a ≤ 0) : a.tdiv b = -((-a) / b) := by
  rw [← Int.tdiv_eq_ediv_of_nonneg (by omega : 0 ≤ -a), Int.neg_tdiv]; omega
theorem tm_pos {a b : Int} (h : 0 ≤ a) : a.tmod b = a % b := Int.tmod_eq_emod_of_nonneg h
theorem tm_neg {a b : Int} (h : a ≤ 0) : a.tmod b = -((-a) % b) := by
  rw [← Int.tmod_eq_emod_of_nonneg (by omega : 0 ≤ -a), Int.neg_tmod]; omega
theorem tm_zero (a b : Int) : a.tmod b = 0 ↔ a % b = 0 := by
  rw [← Int.dvd_iff_tmod_eq_zero, ← Int.dvd_iff_emod_eq_zero]
theorem ediv_is {a b q r : Int} (hb : 0 < b) (h : a = b * q + r) (h0 : 0 ≤ r) (h1 : r < b) : a / b = q := by
  rw [h, Int.add_comm, Int.add_mul_ediv_left _ _ (by omega), Int.ediv_eq_zero_of_lt h0 h1]; omega
theorem ediv_neg_of {a b : Int} (hb : 0 < b) (h : a.tmod b = 0) : a.tdiv b = a / b := by
  have e := Int.mul_tdiv_add_tmod a b
  rw [h] at e
  exact (ediv_is hb (q := a.tdiv b) (r := 0) (by omega) (by omega) hb).symm
theorem ediv_floor {a b : Int} (hb : 0 < b) (ha : a < 0) (h : a.tmod b ≠ 0) : a.tdiv b - 1 = a / b := by
  have e := Int.mul_tdiv_add_tmod a b
  have hm := tm_neg (a := a) (b := b) (by omega)
  have h0 := Int.emod_nonneg (-a) (by omega : b ≠ 0)
  have h1 := Int.emod_lt_of_pos (-a) hb
  refine (ediv_is hb (q := a.tdiv b - 1) (r := a.tmod b + b) ?_ (by omega) (by omega)).symm
  rw [Int.mul_sub]; omega
/-- The floor, as both programs reckon it. -/
theorem floor_is {a b : Int} (hb : 0 < b) (h1 : -4611686018427387904 ≤ a) (h2 : a ≤ 4611686018427387904) :
    (if b = 0 then (none) else (if (Int.tmod a b) = 0 then (some (wrap64 (Int.tdiv a b))) else (if ((decide (a < 0)) != (decide (b < 0))) = true then (some (wrap64 ((wrap64 (Int.tdiv a b)) - 1))) else (some (wrap64 (Int.tdiv a b)))))) = some (a / b) := by
  have hle : a / b ≤ 4611686018427387904 := by
    by_cases h : 0 ≤ a
    · exact Int.le_trans (Int.ediv_le_self b h) h2
    · have := Int.ediv_neg_of_neg_of_pos (by omega : a < 0) hb; omega
  have hge : -4611686018427387904 ≤ a / b := by
    by_cases h : 0 ≤ a
    · have := Int.ediv_nonneg h (by omega : 0 ≤ b); omega
    · exact Int.le_ediv_of_mul_le hb (by have : -4611686018427387904 * b ≤ -4611686018427387904 * 1 := by omega
                                         omega)
  rw [if_neg (by omega : ¬ b = 0)]
  by_cases hm : Int.tmod a b = 0
  · rw [if_pos hm, ediv_neg_of hb hm, wrap_id (by omega) (by omega)]
  · rw [if_neg hm]
    by_cases ha : a < 0
    · have e := ediv_floor hb ha hm
      rw [if_pos (by simp [ha]; omega), wrap_id (x := Int.tdiv a b) (by omega) (by omega), e, wrap_id (by omega) (by omega)]
    · rw [if_neg (by simp [ha]; omega), td_pos (by omega), wrap_id (by omega) (by omega)]

/-! plain facts on texts as lists of numbers -/
theorem u8_back (b : UInt8) : UInt8.ofNat ((b.toNat : Int)).toNat = b := by simp
theorem strOfNums_bytesOf (s : ByteArray) : strOfNums (bytesOf s) = s := by
  cases s with | mk d =>
  unfold strOfNums bytesOf
  congr 1
  rw [List.map_map]
  have : ((fun n : Int => UInt8.ofNat n.toNat) ∘ fun b : UInt8 => (b.toNat : Int)) = id := by funext b; exact u8_back b
  rw [this, List.map_id]
def okL (xs : List Int) : Prop := ∀ x ∈ xs, 0 ≤ x ∧ x < 256
theorem bytesOf_strOfNums (xs : List Int) (h : okL xs) : bytesOf (strOfNums xs) = xs := by
  unfold bytesOf
  rw [strOfNums_data, List.map_map]
  conv => rhs; rw [← List.map_id xs]
  refine List.map_congr_left fun x hx => ?_
  have := h x hx
  simp only [Function.comp, UInt8.toNat_ofNat', id]
  omega
theorem okL_bytesOf (s : ByteArray) : okL (bytesOf s) := by
  intro x hx
  obtain ⟨b, _, rfl⟩ := List.mem_map.1 hx
  have := b.toNat_lt
  omega
theorem strOfNums_app (xs ys : List Int) : strOfNums xs ++ strOfNums ys = strOfNums (xs ++ ys) := by
  apply ByteArray.ext
  rw [ByteArray.data_append]
  simp [strOfNums]
theorem bytesOf_inj {s t : ByteArray} (h : bytesOf s = bytesOf t) : s = t := by
  rw [← strOfNums_bytesOf s, ← strOfNums_bytesOf t, h]
theorem toList_iff (s t : ByteArray) : s.toList = t.toList ↔ bytesOf s = bytesOf t := by
  rw [ByteArray.toList_eq, ByteArray.toList_eq]
  constructor
  · intro h; unfold bytesOf; rw [h]
  · intro h; rw [bytesOf_inj h]
theorem bt_of (s : ByteArray) (L : List Int) (h : bytesOf s = L) (i : Int) : bt s i = rd L i := by
  rw [← h, rd_bytesOf]
theorem size_of' (s : ByteArray) (L : List Int) (h : bytesOf s = L) : s.size = L.length := by
  rw [← h, bytesOf_length]

def goodRefB (r c : Int) : Bool := decide (1 ≤ r ∧ r ≤ 1000 ∧ 1 ≤ c ∧ c ≤ 200)
theorem specGoodRef_is (r c : Int) (a b : Bool) : spec_GoodRef.f r c a b = some (goodRefB r c) := by
  unfold spec_GoodRef.f goodRefB
  by_cases h1 : 1 ≤ r <;> by_cases h2 : r ≤ 1000 <;> by_cases h3 : 1 ≤ c <;> by_cases h4 : c ≤ 200 <;> simp [h1, h2, h3, h4]
theorem implGoodRef_is (r c : Int) (a b : Bool) : impl_GoodRef.f r c a b = some (goodRefB r c) := by
  unfold impl_GoodRef.f impl_Ref_place.f impl_place_good.f goodRefB
  simp only [Option.bind_some]
  by_cases h1 : 1 ≤ r <;> by_cases h2 : r ≤ 1000 <;> by_cases h3 : 1 ≤ c <;> by_cases h4 : c ≤ 200 <;> simp [h1, h2, h3, h4]

/-- A number's decimal text. -/
def txt (n : Int) : ByteArray := ⟨(Lib.itoa n).toArray⟩
theorem l1Num_is (n : Int) (h1 : -1000000000000000000 < n) (h2 : n < 1000000000000000000) : spec_l1Num.f n = some (txt n) := by unfold spec_l1Num.f; rw [if_pos ⟨h1, h2⟩]; rfl
theorem itoa_is (n : Int) (h1 : -1000000000000000000 < n) (h2 : n < 1000000000000000000) : strconv_Itoa.f n = some (txt n) := by unfold strconv_Itoa.f; rw [if_pos ⟨by omega, by omega⟩]; rfl
theorem txt_le (n : Int) (h1 : -1000000000000000000 < n) (h2 : n < 1000000000000000000) : (txt n).size ≤ 21 := by
  have := Lib.itoa_length_le n (by omega) (by omega)
  show (Lib.itoa n).toArray.size ≤ 21
  simpa using this

theorem txt_neg (d : Int) (h : d < 0) : txt d = (⟨#[45]⟩ : ByteArray) ++ txt (-d) := by
  have e1 : Lib.itoa d = 45 :: Lib.decDigits d.natAbs := by unfold Lib.itoa; rw [if_pos h]
  have e2 : Lib.itoa (-d) = Lib.decDigits d.natAbs := by unfold Lib.itoa; rw [if_neg (by omega)]; congr 1; omega
  apply ByteArray.ext
  show (Lib.itoa d).toArray = _
  rw [e1, ByteArray.data_append]
  show _ = #[45] ++ (Lib.itoa (-d)).toArray
  rw [e2]; simp
theorem txt_size (u : Nat) : (txt (u : Int)).size = Lib.nDigits u := by
  have e : Lib.itoa (u : Int) = Lib.decDigits u := by unfold Lib.itoa; rw [if_neg (by omega)]; simp
  show (Lib.itoa (u : Int)).toArray.size = _
  rw [e]; simp [Lib.decDigits_length]
theorem txt_pos (n : Int) (h1 : -1000000000000000000 < n) (h2 : n < 1000000000000000000) : 1 ≤ (txt n).size := by
  rcases Int.lt_or_le n 0 with h | h
  · rw [txt_neg n h, ByteArray.size_append]; show 1 ≤ 1 + _; omega
  · obtain ⟨u, rfl⟩ : ∃ u : Nat, n = u := ⟨n.toNat, by omega⟩
    rw [txt_size]; exact Lib.nDigits_pos u
theorem ba_assoc (a b c : ByteArray) : a ++ b ++ c = a ++ (b ++ c) := ByteArray.append_assoc
theorem ba_ext {a b : ByteArray} (h : a.data.toList = b.data.toList) : a = b := ByteArray.ext (Array.toList_inj.1 h)

/-! numbers read out of texts -/
/-- The digits' number; -1 where there are others, or none, or more than six. -/
def l2go (acc : Int) : List Int → Int
  | [] => acc
  | d :: r => if 48 ≤ d ∧ d ≤ 57 then l2go (acc * 10 + (d - 48)) r else -1
def l2L (L : List Int) : Int := if L.length < 1 then -1 else if L.length > 6 then -1 else l2go 0 L
def p10 : Nat → Int
  | 0 => 1
  | n + 1 => p10 n * 10
theorem p10_le : ∀ i : Nat, i ≤ 6 → 1 ≤ p10 i ∧ p10 i ≤ 1000000 := by
  intro i h
  rcases (by omega : i = 0 ∨ i = 1 ∨ i = 2 ∨ i = 3 ∨ i = 4 ∨ i = 5 ∨ i = 6) with rfl | rfl | rfl | rfl | rfl | rfl | rfl <;> decide
theorem at_bt (s : ByteArray) (i : Nat) (h : i < (bytesOf s).length) : (bytesOf s)[i] = bt s (i : Int) := by
  have := rd_bytesOf s (i : Int)
  unfold rd at this
  rw [Int.toNat_natCast, List.getD_eq_getElem?_getD, List.getElem?_eq_getElem h] at this
  exact this
theorem l2_l0 (s : ByteArray) : ∀ (n k i : Nat) (acc : Int), i + n = s.size → i + n ≤ 6 → 0 ≤ acc → acc < p10 i → spec_l2Number.l0 (k + n + 1) s acc (i : Int) = some (l2go acc ((bytesOf s).drop i)) := by
  intro n
  induction n with
  | zero =>
    intro k i acc hi h6 h0 h1
    simp only [spec_l2Number.l0]
    rw [if_neg (by omega), List.drop_eq_nil_of_le (by rw [bytesOf_length]; omega)]
    rfl
  | succ n ih =>
    intro k i acc hi h6 h0 h1
    have hlt : i < (bytesOf s).length := by rw [bytesOf_length]; omega
    have hb := at_bt s i hlt
    have hr := bt_range s (i : Int)
    have hp := p10_le i (by omega)
    have ih' := ih k (i + 1)
    obtain ⟨m, hm⟩ : ∃ m, m = k + n + 1 := ⟨_, rfl⟩
    rw [show k + (n + 1) + 1 = m + 1 from by omega]
    rw [← hm] at ih'
    simp only [spec_l2Number.l0, spec_l1Digit.f]
    rw [if_pos (by omega), if_pos (by omega), List.drop_eq_getElem_cons hlt, hb]
    show _ = some (if 48 ≤ bt s (i : Int) ∧ bt s (i : Int) ≤ 57 then l2go (acc * 10 + (bt s (i : Int) - 48)) ((bytesOf s).drop (i + 1)) else -1)
    by_cases a : bt s (i : Int) ≥ 48
    · rw [if_pos a]
      simp only [Option.bind_some]
      by_cases b : bt s (i : Int) ≤ 57
      · rw [if_pos (by simp [b]), if_pos ⟨a, b⟩, wrap_id (x := acc * 10) (by omega) (by omega), show (bt s (i : Int) - 48) % 256 = bt s (i : Int) - 48 from by omega, wrap_id (by omega) (by omega), wrap_id (by omega) (by omega), show (i : Int) + 1 = ((i + 1 : Nat) : Int) from by omega]
        exact ih' _ (by omega) (by omega) (by omega) (by show _ < p10 i * 10; omega)
      · rw [if_neg (by simp [b]), if_neg (by omega)]
    · rw [if_neg a, if_neg (by omega)]; rfl
theorem l2_is (k : Nat) (s : ByteArray) : spec_l2Number.f (k + 10) s = some (l2L (bytesOf s)) := by
  have hz := bytesOf_length s
  unfold spec_l2Number.f l2L
  by_cases h1 : s.size < 1
  · rw [if_pos (by omega), if_pos (by omega)]; simp [spec_l2Number.j0]
  · rw [if_neg (by omega), if_neg (by omega)]
    by_cases h2 : s.size > 6
    · rw [decide_eq_true (by omega), if_pos (by omega)]; simp [spec_l2Number.j0]
    · rw [decide_eq_false (by omega), if_neg (by omega)]
      simp only [spec_l2Number.j0]
      rw [if_neg (by decide)]
      have := l2_l0 s s.size (k + 8 - s.size) 0 0 (by omega) (by omega) (by omega) (by decide)
      rw [show k + 8 - s.size + s.size + 1 = k + 9 from by omega] at this
      simpa using this
theorem bytes_ext (s : ByteArray) (i j : Nat) : bytesOf (s.extract i j) = ((bytesOf s).drop i).take (j - i) := by
  unfold bytesOf
  rw [ByteArray.data_extract, Array.toList_extract, List.extract, List.map_take, List.map_drop]
def txtL (r : Int) : List Int := bytesOf (txt r)
theorem bytes_app (x y : ByteArray) : bytesOf (x ++ y) = bytesOf x ++ bytesOf y := by
  unfold bytesOf; rw [ByteArray.data_append]; simp
theorem txtL_nat (u : Nat) : txtL (u : Int) = (Lib.decDigits u).map fun b => (b.toNat : Int) := by
  have e : Lib.itoa (u : Int) = Lib.decDigits u := by unfold Lib.itoa; rw [if_neg (by omega)]; simp
  unfold txtL bytesOf txt; rw [e]
theorem txtL_digit (u : Nat) : ∀ x ∈ txtL (u : Int), 48 ≤ x ∧ x ≤ 57 := by
  intro x hx
  rw [txtL_nat, Lib.decDigits_eq, List.map_map] at hx
  obtain ⟨t, _, rfl⟩ := List.mem_map.1 hx
  simp only [Function.comp, Lib.dg, UInt8.toNat_ofNat']
  omega
theorem toNat_dig (d : Nat) (h : d ≤ 9) : ((UInt8.ofNat (48 + d)).toNat : Int) = 48 + d := by
  rw [UInt8.toNat_ofNat']; omega
theorem l2_txt (r : Int) (h1 : 1 ≤ r) (h2 : r ≤ 1000) : l2L (txtL r) = r := by
  obtain ⟨u, rfl⟩ : ∃ u : Nat, r = u := ⟨r.toNat, by omega⟩
  rw [txtL_nat]
  have st : ∀ (acc : Int) (d : Nat) (l : List Int), d ≤ 9 → l2go acc ((48 + (d : Int)) :: l) = l2go (acc * 10 + d) l := by
    intro acc d l hd
    show (if 48 ≤ 48 + (d : Int) ∧ 48 + (d : Int) ≤ 57 then l2go (acc * 10 + (48 + (d : Int) - 48)) l else -1) = _
    rw [if_pos (by omega), show (48 + (d : Int) - 48) = d from by omega]
  by_cases a : u < 10
  · rw [Lib.decDigits, dif_pos a]
    simp only [List.map_cons, List.map_nil, toNat_dig u (by omega)]
    show l2go 0 [48 + (u : Int)] = _
    rw [st 0 u [] (by omega)]; show (0 : Int) * 10 + u = u; omega
  · rw [Lib.decDigits, dif_neg a]
    by_cases b : u < 100
    · rw [Lib.decDigits, dif_pos (by omega)]
      simp only [List.map_append, List.map_cons, List.map_nil, toNat_dig (u / 10) (by omega), toNat_dig (u % 10) (by omega)]
      show l2go 0 [48 + ((u / 10 : Nat) : Int), 48 + ((u % 10 : Nat) : Int)] = _
      rw [st 0 _ _ (by omega), st _ _ _ (by omega)]; show ((0 : Int) * 10 + (u / 10 : Nat)) * 10 + (u % 10 : Nat) = u; omega
    · rw [Lib.decDigits, dif_neg (by omega)]
      by_cases c : u < 1000
      · rw [Lib.decDigits, dif_pos (by omega)]
        simp only [List.map_append, List.map_cons, List.map_nil, toNat_dig (u / 10 / 10) (by omega), toNat_dig (u / 10 % 10) (by omega), toNat_dig (u % 10) (by omega)]
        show l2go 0 [48 + ((u / 10 / 10 : Nat) : Int), 48 + ((u / 10 % 10 : Nat) : Int), 48 + ((u % 10 : Nat) : Int)] = _
        rw [st 0 _ _ (by omega), st _ _ _ (by omega), st _ _ _ (by omega)]; show (((0 : Int) * 10 + (u / 10 / 10 : Nat)) * 10 + (u / 10 % 10 : Nat)) * 10 + (u % 10 : Nat) = u; omega
      · obtain rfl : u = 1000 := by omega
        rw [Lib.decDigits, dif_neg (by decide), Lib.decDigits, dif_pos (by decide)]
        rfl
theorem decFrom_snoc : ∀ (l : List UInt8) (acc n : Nat) (b : UInt8) (d : Nat), Lib.decFrom acc l = some n → Lib.digitVal b = some d → Lib.decFrom acc (l ++ [b]) = some (n * 10 + d)
  | [], acc, n, b, d, h, hb => by
    simp only [Lib.decFrom, Option.some.injEq] at h
    subst h
    simp [Lib.decFrom, hb]
  | a :: t, acc, n, b, d, h, hb => by
    simp only [Lib.decFrom, List.cons_append] at h ⊢
    cases ha : Lib.digitVal a with
    | none => simp [ha] at h
    | some e => simp only [ha] at h ⊢; exact decFrom_snoc t _ n b d h hb
theorem digitVal_dig (d : Nat) (h : d ≤ 9) : Lib.digitVal (UInt8.ofNat (48 + d)) = some d := by
  have e : (UInt8.ofNat (48 + d)).toNat = 48 + d := by rw [UInt8.toNat_ofNat']; omega
  unfold Lib.digitVal
  rw [e, if_pos (by omega)]; congr 1; omega
theorem decFrom_dec (u : Nat) : Lib.decFrom 0 (Lib.decDigits u) = some u := by
  induction u using Nat.strongRecOn with
  | _ u ih =>
    by_cases h : u < 10
    · rw [Lib.decDigits, dif_pos h]
      simp only [Lib.decFrom]; rw [digitVal_dig u (by omega)]; simp [Lib.decFrom]
    · rw [Lib.decDigits, dif_neg h, decFrom_snoc _ _ _ _ _ (ih (u / 10) (by omega)) (digitVal_dig (u % 10) (by omega))]
      congr 1; omega

/-! Reading a reference told from a place: what either takes, it holds against the text of what it read; and each reads every good reference's text as that reference. -/
def pB (n m : Int) (fix : Bool) : ByteArray := if fix = true then txt n else if n = m then (⟨#[]⟩ : ByteArray) else (⟨#[91]⟩ : ByteArray) ++ (txt (n - m) ++ (⟨#[93]⟩ : ByteArray))
theorem nDig4 (u : Nat) (h : u ≤ 5000) : Lib.nDigits u ≤ 4 := by
  by_cases a : u < 10
  · rw [Lib.nDigits_small a]; omega
  · rw [Lib.nDigits_big a]
    by_cases b : u / 10 < 10
    · rw [Lib.nDigits_small b]; omega
    · rw [Lib.nDigits_big b]
      by_cases c : u / 10 / 10 < 10
      · rw [Lib.nDigits_small c]; omega
      · rw [Lib.nDigits_big c, Lib.nDigits_small (by omega)]; omega
theorem txt5 (n : Int) (h1 : -5000 ≤ n) (h2 : n ≤ 5000) : (txt n).size ≤ 5 := by
  rcases Int.lt_or_le n 0 with h | h
  · obtain ⟨u, hu⟩ : ∃ u : Nat, -n = u := ⟨(-n).toNat, by omega⟩
    rw [txt_neg n h, ByteArray.size_append, hu, txt_size]
    have := nDig4 u (by omega)
    show 1 + _ ≤ 5; omega
  · obtain ⟨u, rfl⟩ : ∃ u : Nat, n = u := ⟨n.toNat, by omega⟩
    rw [txt_size]; have := nDig4 u (by omega); omega
theorem pB_le (n m : Int) (fix : Bool) (h1 : -2000 ≤ n) (h2 : n ≤ 2000) (h3 : -2000 ≤ m) (h4 : m ≤ 2000) : (pB n m fix).size ≤ 7 := by
  have z1 : (⟨#[91]⟩ : ByteArray).size = 1 := rfl
  have z3 : (⟨#[93]⟩ : ByteArray).size = 1 := rfl
  have z0 : (⟨#[]⟩ : ByteArray).size = 0 := rfl
  have a := txt5 n (by omega) (by omega)
  have b := txt5 (n - m) (by omega) (by omega)
  unfold pB
  split
  · omega
  · split
    · omega
    · simp only [ByteArray.size_append, z1, z3]; omega
theorem by_is (a : ByteArray) (ha : a.size ≤ 10) (n m : Int) (fix : Bool) (h1 : -2000 ≤ n) (h2 : n ≤ 2000) (h3 : -2000 ≤ m) (h4 : m ≤ 2000) :
    spec_l3By.f a n m fix = some (a ++ pB n m fix) ∧ impl_partBy.f a n fix m = some (a ++ pB n m fix) := by
  have z1 : (⟨#[91]⟩ : ByteArray).size = 1 := rfl
  have z2 : (⟨#[91, 45]⟩ : ByteArray).size = 2 := rfl
  have z3 : (⟨#[93]⟩ : ByteArray).size = 1 := rfl
  have z4 : (⟨#[91, 45]⟩ : ByteArray) = (⟨#[91]⟩ : ByteArray) ++ (⟨#[45]⟩ : ByteArray) := rfl
  have hw : wrap64 (n - m) = n - m := wrap_id (by omega) (by omega)
  have ln := txt_le n (by omega) (by omega)
  have ld := txt_le (n - m) (by omega) (by omega)
  have le := txt_le (-(n - m)) (by omega) (by omega)
  have e0 : a ++ (⟨#[]⟩ : ByteArray) = a := ba_ext (by rw [ByteArray.data_append]; simp)
  unfold spec_l3By.f impl_partBy.f pB
  cases fix
  · simp only [Bool.false_eq_true, if_false]
    by_cases he : n = m
    · rw [if_pos he, if_pos he, if_pos he, e0]; exact ⟨rfl, rfl⟩
    · rw [if_neg he, if_neg he, if_neg he, hw]
      have hi : (if a.size + 1 ≤ 9223372036854775807 then (strconv_Itoa.f (n - m)).bind fun t280 => if (a ++ (⟨#[91]⟩ : ByteArray)).size + t280.size ≤ 9223372036854775807 then (if ((a ++ (⟨#[91]⟩ : ByteArray)) ++ t280).size + 1 ≤ 9223372036854775807 then some (((a ++ (⟨#[91]⟩ : ByteArray)) ++ t280) ++ (⟨#[93]⟩ : ByteArray)) else none) else none else none) = some (a ++ ((⟨#[91]⟩ : ByteArray) ++ (txt (n - m) ++ (⟨#[93]⟩ : ByteArray)))) := by
        rw [if_pos (by omega), itoa_is (n - m) (by omega) (by omega)]
        simp only [Option.bind_some, ByteArray.size_append, z1]
        rw [if_pos (by omega), if_pos (by omega)]
        simp only [ba_assoc]
      refine ⟨?_, hi⟩
      by_cases hlt : n - m < 0
      · rw [if_pos hlt, if_pos (by omega), wrap_id (x := -(n - m)) (by omega) (by omega), l1Num_is (-(n - m)) (by omega) (by omega)]
        simp only [Option.bind_some, ByteArray.size_append, z2]
        rw [if_pos (by omega), if_pos (by omega), txt_neg (n - m) hlt, z4]
        simp only [ba_assoc]
      · rw [if_neg hlt, if_pos (by omega), l1Num_is (n - m) (by omega) (by omega)]
        simp only [Option.bind_some, ByteArray.size_append, z1]
        rw [if_pos (by omega), if_pos (by omega)]
        simp only [ba_assoc]
  · rw [if_pos rfl, if_pos rfl, if_pos rfl]
    refine ⟨?_, ?_⟩
    · rw [l1Num_is n (by omega) (by omega)]; simp only [Option.bind_some]; rw [if_pos (by omega)]
    · rw [itoa_is n (by omega) (by omega)]; simp only [Option.bind_some]; rw [if_pos (by omega)]
def byTxt (r c : Int) (a b : Bool) (row col : Int) : ByteArray := ((⟨#[82]⟩ : ByteArray) ++ pB r row a) ++ ((⟨#[67]⟩ : ByteArray) ++ pB c col b)
theorem place_nums {r c : Int} (h : goodRefB r c = true) : 1 ≤ r ∧ r ≤ 1000 ∧ 1 ≤ c ∧ c ≤ 200 := by unfold goodRefB at h; exact of_decide_eq_true h
theorem byTxt_le (r c : Int) (a b : Bool) (row col : Int) (h : goodRefB r c = true) (h' : goodRefB row col = true) : (byTxt r c a b row col).size ≤ 40 := by
  have b1 := place_nums h
  have b2 := place_nums h'
  have x := pB_le r row a (by omega) (by omega) (by omega) (by omega)
  have y := pB_le c col b (by omega) (by omega) (by omega) (by omega)
  have z1 : (⟨#[82]⟩ : ByteArray).size = 1 := rfl
  have z2 : (⟨#[67]⟩ : ByteArray).size = 1 := rfl
  unfold byTxt
  simp only [ByteArray.size_append, z1, z2]; omega
theorem specPlace_is (r c : Int) : spec_l3Place.f r c = some (goodRefB r c) := by
  unfold spec_l3Place.f; simp only [specGoodRef_is, Option.bind_some]
theorem implPlace_is (r c : Int) : impl_place_good.f r c = some (goodRefB r c) := by
  unfold impl_place_good.f goodRefB
  by_cases h1 : 1 ≤ r <;> by_cases h2 : r ≤ 1000 <;> by_cases h3 : 1 ≤ c <;> by_cases h4 : c ≤ 200 <;> simp [h1, h2, h3, h4]
theorem refTextBy_is (k : Nat) (r c : Int) (a b : Bool) (row col : Int) (h : goodRefB r c = true) (h' : goodRefB row col = true) :
    spec_RefTextBy.f (k + 1) r c a b row col = some (byTxt r c a b row col) ∧ impl_RefTextBy.f (k + 1) r c a b row col = some (byTxt r c a b row col) := by
  have b1 := place_nums h
  have b2 := place_nums h'
  have hl := byTxt_le r c a b row col h h'
  unfold byTxt at hl
  rw [ByteArray.size_append] at hl
  obtain ⟨hx1, hx2⟩ := by_is (⟨#[82]⟩ : ByteArray) (by decide) r row a (by omega) (by omega) (by omega) (by omega)
  obtain ⟨hy1, hy2⟩ := by_is (⟨#[67]⟩ : ByteArray) (by decide) c col b (by omega) (by omega) (by omega) (by omega)
  unfold spec_RefTextBy.f impl_RefTextBy.f
  rw [specGoodRef_is, implGoodRef_is, specPlace_is, implPlace_is]
  simp only [Option.bind_some]
  rw [h, h']
  refine ⟨?_, ?_⟩
  · simp only [if_true, Bool.not_true, spec_RefTextBy.j0, Bool.false_eq_true, if_false, hx1, hy1, Option.bind_some]; rw [if_pos (by omega)]; rfl
  · simp only [if_true, Bool.not_true, impl_RefTextBy.j0, Bool.false_eq_true, if_false, hx2, hy2, Option.bind_some]; rw [if_pos (by omega)]; rfl
/-! in lists -/
def isD (x : Int) : Bool := decide (48 ≤ x ∧ x ≤ 57)
theorem l1Digit_is (x : Int) : spec_l1Digit.f x = some (isD x) := by
  unfold spec_l1Digit.f isD
  by_cases h1 : 48 ≤ x <;> by_cases h2 : x ≤ 57 <;> simp [h1, h2]
def pL (n m : Int) (fix : Bool) : List Int := if fix = true then txtL n else if n = m then [] else 91 :: (txtL (n - m) ++ [93])
theorem bytes_pB (n m : Int) (fix : Bool) : bytesOf (pB n m fix) = pL n m fix := by
  unfold pB pL
  split
  · rfl
  · split
    · rfl
    · rw [bytes_app, bytes_app]; rfl
theorem bytes_byTxt (r c : Int) (a b : Bool) (row col : Int) : bytesOf (byTxt r c a b row col) = 82 :: (pL r row a ++ 67 :: pL c col b) := by
  unfold byTxt
  rw [bytes_app, bytes_app, bytes_app, bytes_pB, bytes_pB]; simp [bytesOf]
theorem txtL_neg (d : Int) (h : d < 0) : txtL d = 45 :: txtL (-d) := by
  unfold txtL; rw [txt_neg d h, bytes_app]; rfl
theorem txtL_D (d : Int) (h : 0 ≤ d) : ∀ x ∈ txtL d, isD x = true := by
  obtain ⟨u, rfl⟩ : ∃ u : Nat, d = u := ⟨d.toNat, by omega⟩
  exact fun x hx => decide_eq_true (txtL_digit u x hx)
theorem txtL_ne (d : Int) (h : 0 ≤ d) : txtL d ≠ [] := by
  obtain ⟨u, rfl⟩ : ∃ u : Nat, d = u := ⟨d.toNat, by omega⟩
  rw [txtL_nat]
  intro e
  have e2 := congrArg List.length e
  rw [List.length_map, Lib.decDigits_length] at e2
  have := Lib.nDigits_pos u
  simp at e2; omega
theorem drop_cons {s : ByteArray} {i : Nat} {x : Int} {R : List Int} (h : (bytesOf s).drop i = x :: R) : i < s.size ∧ bt s (i : Int) = x ∧ (bytesOf s).drop (i + 1) = R := by
  have hl : i < (bytesOf s).length := by
    rcases Nat.lt_or_ge i (bytesOf s).length with h' | h'
    · exact h'
    · rw [List.drop_eq_nil_of_le h'] at h; cases h
  rw [List.drop_eq_getElem_cons hl, at_bt s i hl] at h
  injection h with h1 h2
  rw [bytesOf_length] at hl
  exact ⟨hl, h1, h2⟩
theorem drop_nil {s : ByteArray} {i : Nat} (h : (bytesOf s).drop i = []) : s.size ≤ i := by
  rw [List.drop_eq_nil_iff, bytesOf_length] at h; exact h
theorem ext_list (s : ByteArray) (i j : Nat) : bytesOf (s.extract i j) = ((bytesOf s).drop i).take (j - i) := bytes_ext s i j
theorem l1_run (s : ByteArray) (fr : Nat) (from_ : Int) (hs : s.size ≤ 1048576) : ∀ (D Q : List Int) (k i : Nat), (∀ x ∈ D, isD x = true) → (∀ x, Q.head? = some x → isD x = false) → (bytesOf s).drop i = D ++ Q → fr ≤ i → i ≤ s.size →
    spec_l3ReadBy.l1 (k + 11 + D.length) s (i : Int) from_ (fr : Int) = some (if i + D.length = fr then (from_, false, ((i + D.length : Nat) : Int)) else (l2L (((bytesOf s).drop fr).take (i + D.length - fr)), true, ((i + D.length : Nat) : Int))) := by
  intro D
  induction D with
  | nil =>
    intro Q k i _ hQ hd hf hi
    have ex : (if (i : Int) = (fr : Int) then some (from_, false, (i : Int)) else (if 0 ≤ (fr : Int) then (if (fr : Int) ≤ (i : Int) then (if (i : Int) ≤ (s.size : Int) then ((spec_l2Number.f (k + 10) (s.extract (fr : Int).toNat (i : Int).toNat)).bind fun t108 => (some (t108, true, (i : Int)))) else none) else none) else none)) = some (if i + ([] : List Int).length = fr then (from_, false, ((i + ([] : List Int).length : Nat) : Int)) else (l2L (((bytesOf s).drop fr).take (i + ([] : List Int).length - fr)), true, ((i + ([] : List Int).length : Nat) : Int))) := by
      simp only [List.length_nil, Nat.add_zero]
      by_cases e : i = fr
      · rw [if_pos (by omega), if_pos e]
      · rw [if_neg (by omega), if_neg e, if_pos (by omega), if_pos (by omega), if_pos (by omega), l2_is, Int.toNat_natCast, Int.toNat_natCast, ext_list]; rfl
    show spec_l3ReadBy.l1 (k + 10 + 1) s _ _ _ = _
    simp only [spec_l3ReadBy.l1]
    cases Q with
    | nil =>
      have := drop_nil (by simpa using hd)
      rw [if_neg (by omega)]; exact ex
    | cons q Q =>
      obtain ⟨a1, a2, _⟩ := drop_cons (by simpa using hd)
      rw [if_pos (by omega), if_pos (by omega), l1Digit_is, a2, hQ q rfl]
      simp only [Option.bind_some, Bool.false_eq_true, if_false]
      exact ex
  | cons x D ih =>
    intro Q k i hD hQ hd hf hi
    obtain ⟨a1, a2, a3⟩ := drop_cons (by simpa using hd)
    have := ih Q k (i + 1) (fun y hy => hD y (by simp [hy])) hQ a3 (by omega) (by omega)
    rw [show k + 11 + (x :: D).length = (k + 11 + D.length) + 1 from rfl]
    simp only [spec_l3ReadBy.l1]
    rw [if_pos (by omega), if_pos (by omega), l1Digit_is, a2, hD x (by simp)]
    simp only [Option.bind_some, if_true]
    rw [wrap_id (by omega) (by omega), show (i : Int) + 1 = ((i + 1 : Nat) : Int) from by omega, this, List.length_cons, show i + 1 + D.length = i + (D.length + 1) from by omega]
def sqV (s : ByteArray) (from_ sg v : Int) (Q : List Int) (j : Nat) : Int × Bool × Int := if Q.head? = some 93 ∧ 0 ≤ v then (wrap64 (from_ + wrap64 (sg * v)), false, ((j + 1 : Nat) : Int)) else (0, false, (s.size : Int))
theorem l0_run (s : ByteArray) (fr : Nat) (from_ sg : Int) (hs : s.size ≤ 1048576) : ∀ (D Q : List Int) (k i : Nat), (∀ x ∈ D, isD x = true) → (∀ x, Q.head? = some x → isD x = false) → (bytesOf s).drop i = D ++ Q → fr ≤ i → i ≤ s.size →
    spec_l3ReadBy.l0 (k + 11 + D.length) s (i : Int) from_ sg (fr : Int) = some (sqV s from_ sg (l2L (((bytesOf s).drop fr).take (i + D.length - fr))) Q (i + D.length)) := by
  intro D
  induction D with
  | nil =>
    intro Q k i _ hQ hd hf hi
    show spec_l3ReadBy.l0 (k + 10 + 1) s _ _ _ _ = _
    simp only [spec_l3ReadBy.l0, List.length_nil, Nat.add_zero]
    cases Q with
    | nil =>
      have := drop_nil (by simpa using hd)
      rw [if_neg (by omega), if_pos (by omega), if_pos (by omega), if_pos (by omega), l2_is]
      simp only [Option.bind_some]
      rw [if_pos (by omega)]
      unfold sqV
      rw [if_neg (by simp)]
    | cons q Q =>
      obtain ⟨a1, a2, _⟩ := drop_cons (by simpa using hd)
      rw [if_pos (by omega), if_pos (by omega), l1Digit_is, a2, hQ q rfl]
      simp only [Option.bind_some, Bool.false_eq_true, if_false]
      rw [if_pos (by omega), if_pos (by omega), if_pos (by omega), l2_is, Int.toNat_natCast, Int.toNat_natCast, ext_list]
      simp only [Option.bind_some]
      rw [if_neg (by omega)]
      unfold sqV
      generalize l2L (List.take (i - fr) (List.drop fr (bytesOf s))) = v
      by_cases h93 : q = 93
      · rw [if_pos h93]
        by_cases hv : v < 0
        · rw [if_pos hv, if_neg (by omega)]
        · rw [if_neg hv, if_pos ⟨by simp [h93], by omega⟩, wrap_id (x := (i : Int) + 1) (by omega) (by omega)]; rfl
      · rw [if_neg h93, if_neg (by simp [h93])]
  | cons x D ih =>
    intro Q k i hD hQ hd hf hi
    obtain ⟨a1, a2, a3⟩ := drop_cons (by simpa using hd)
    have := ih Q k (i + 1) (fun y hy => hD y (by simp [hy])) hQ a3 (by omega) (by omega)
    rw [show k + 11 + (x :: D).length = (k + 11 + D.length) + 1 from rfl]
    simp only [spec_l3ReadBy.l0]
    rw [if_pos (by omega), if_pos (by omega), l1Digit_is, a2, hD x (by simp)]
    simp only [Option.bind_some, if_true]
    rw [wrap_id (by omega) (by omega), show (i : Int) + 1 = ((i + 1 : Nat) : Int) from by omega, this, List.length_cons, show i + 1 + D.length = i + (D.length + 1) from by omega]
theorem dlen {s : ByteArray} {i : Nat} {D Q : List Int} (h : (bytesOf s).drop i = D ++ Q) (hi : i ≤ s.size) : i + D.length + Q.length = s.size := by
  have := congrArg List.length h
  rw [List.length_drop, List.length_append, bytesOf_length] at this; omega
theorem readBy_plain (s : ByteArray) (hs : s.size ≤ 1048576) (i : Nat) (from_ : Int) (D Q : List Int) (hD : ∀ x ∈ D, isD x = true) (hQ : ∀ x, Q.head? = some x → isD x = false) (hd : (bytesOf s).drop i = D ++ Q) (h91 : (D ++ Q).head? ≠ some 91) (hi : i ≤ s.size) (K : Nat) (hK : s.size + 30 ≤ K) :
    spec_l3ReadBy.f K s (i : Int) from_ = some (if D.length = 0 then (from_, false, (i : Int)) else (l2L D, true, ((i + D.length : Nat) : Int))) := by
  have hz := dlen hd hi
  obtain ⟨k, rfl⟩ : ∃ k, K = (k + 11 + D.length) + 1 := ⟨K - 12 - D.length, by omega⟩
  have hr := l1_run s i from_ hs D Q k i hD hQ hd (Nat.le_refl _) hi
  have e1 : i + D.length - i = D.length := by omega
  rw [e1, hd, List.take_left] at hr
  have hj : spec_l3ReadBy.j0 ((k + 11 + D.length) + 1) s (i : Int) from_ false = some (if D.length = 0 then (from_, false, (i : Int)) else (l2L D, true, ((i + D.length : Nat) : Int))) := by
    simp only [spec_l3ReadBy.j0, Bool.false_eq_true, if_false]
    rw [hr]
    by_cases h0 : D.length = 0
    · rw [if_pos h0, if_pos (by omega), h0]; rfl
    · rw [if_neg h0, if_neg (by omega)]
  unfold spec_l3ReadBy.f
  by_cases hlt : i < s.size
  · rw [if_pos (by omega), if_pos (by omega)]
    have hb : (bt s (i : Int) == 91) = false := by
      have hl : i < (bytesOf s).length := by rw [bytesOf_length]; exact hlt
      rw [← hd, List.drop_eq_getElem_cons hl, at_bt s i hl] at h91
      simpa using h91
    rw [hb]; exact hj
  · rw [if_neg (by omega)]; exact hj
theorem readBy_sq (s : ByteArray) (hs : s.size ≤ 1048576) (i : Nat) (from_ sg : Int) (M D Q : List Int) (hM : (M = [45] ∧ sg = -1) ∨ (M = [] ∧ sg = 1 ∧ (D ++ Q).head? ≠ some 45)) (hD : ∀ x ∈ D, isD x = true) (hQ : ∀ x, Q.head? = some x → isD x = false) (hd : (bytesOf s).drop i = 91 :: (M ++ (D ++ Q))) (hi : i ≤ s.size) (K : Nat) (hK : s.size + 30 ≤ K) :
    spec_l3ReadBy.f K s (i : Int) from_ = some (sqV s from_ sg (l2L D) Q (i + 1 + M.length + D.length)) := by
  obtain ⟨a1, a2, a3⟩ := drop_cons hd
  have hz : i + 1 + M.length + D.length + Q.length = s.size := by
    have := dlen (D := M) (Q := D ++ Q) a3 (by omega)
    rw [List.length_append] at this; omega
  have a4 : (bytesOf s).drop (i + 1 + M.length) = D ++ Q := by
    rw [← List.drop_drop, a3, List.drop_left]
  obtain ⟨k, rfl⟩ : ∃ k, K = (k + 11 + D.length) + 1 + 1 + 1 := ⟨K - 14 - D.length, by omega⟩
  have hr := l0_run s (i + 1 + M.length) from_ sg hs D Q k (i + 1 + M.length) hD hQ a4 (Nat.le_refl _) (by omega)
  rw [show i + 1 + M.length + D.length - (i + 1 + M.length) = D.length from by omega, a4, List.take_left] at hr
  unfold spec_l3ReadBy.f
  rw [if_pos (by omega), if_pos (by omega), a2]
  simp only [beq_self_eq_true, spec_l3ReadBy.j0, if_true]
  rw [wrap_id (x := (i : Int) + 1) (by omega) (by omega)]
  rcases hM with ⟨rfl, rfl⟩ | ⟨rfl, rfl, h45⟩
  · obtain ⟨b1, b2, b3⟩ := drop_cons (x := 45) (R := D ++ Q) a3
    rw [if_pos (by omega), if_pos (by omega), show (i : Int) + 1 = ((i + 1 : Nat) : Int) from by omega, b2]
    simp only [beq_self_eq_true, spec_l3ReadBy.j1, if_true, spec_l3ReadBy.j2]
    rw [wrap_id (by omega) (by omega)]
    exact hr
  · have hb : ∀ b, b = false → spec_l3ReadBy.j1 ((k + 11 + D.length) + 1 + 1) s ((i : Int) + 1) from_ 1 b = some (sqV s from_ 1 (l2L D) Q (i + 1 + ([] : List Int).length + D.length)) := by
      intro b hb
      rw [hb]
      simp only [spec_l3ReadBy.j1, Bool.false_eq_true, if_false, spec_l3ReadBy.j2]
      exact hr
    by_cases hlt : i + 1 < s.size
    · rw [if_pos (by omega), if_pos (by omega)]
      refine hb _ ?_
      have hl : i + 1 < (bytesOf s).length := by rw [bytesOf_length]; exact hlt
      have a5 : (bytesOf s).drop (i + 1) = D ++ Q := a3
      rw [← a5, List.drop_eq_getElem_cons hl, at_bt s (i + 1) hl] at h45
      rw [show (i : Int) + 1 = ((i + 1 : Nat) : Int) from by omega]
      simpa using h45
    · rw [if_neg (by omega)]; exact hb _ rfl
theorem split_run (R : List Int) : ∃ D Q : List Int, R = D ++ Q ∧ (∀ x ∈ D, isD x = true) ∧ (∀ x, Q.head? = some x → isD x = false) := by
  refine ⟨R.takeWhile isD, R.dropWhile isD, (List.takeWhile_append_dropWhile).symm, ?_, ?_⟩
  · intro x hx
    exact List.all_eq_true.1 (List.all_takeWhile) x hx
  · intro x hx
    have := List.head?_dropWhile_not isD R
    rw [hx] at this
    exact this
theorem readBy_total (s : ByteArray) (hs : s.size ≤ 1048576) (i : Nat) (from_ : Int) (hi : i ≤ s.size) (K : Nat) (hK : s.size + 30 ≤ K) : ∃ (n : Int) (fix : Bool) (j : Nat), spec_l3ReadBy.f K s (i : Int) from_ = some (n, fix, (j : Int)) ∧ j ≤ s.size := by
  by_cases h91 : ((bytesOf s).drop i).head? = some 91
  · obtain ⟨R, hR⟩ : ∃ R, (bytesOf s).drop i = 91 :: R := by
      cases h : (bytesOf s).drop i with
      | nil => rw [h] at h91; cases h91
      | cons x R => rw [h] at h91; exact ⟨R, by simp at h91; rw [h91]⟩
    have key : ∀ (M R' : List Int) (sg : Int), R = M ++ R' → ((M = [45] ∧ sg = -1) ∨ (M = [] ∧ sg = 1 ∧ R'.head? ≠ some 45)) → ∃ (n : Int) (fix : Bool) (j : Nat), spec_l3ReadBy.f K s (i : Int) from_ = some (n, fix, (j : Int)) ∧ j ≤ s.size := by
      intro M R' sg hRM hM
      obtain ⟨D, Q, hDQ, hD, hQ⟩ := split_run R'
      subst hDQ
      subst hRM
      have := readBy_sq s hs i from_ sg M D Q hM hD hQ hR hi K hK
      have hz : i + 1 + M.length + D.length + Q.length = s.size := by
        obtain ⟨b1, _, b3⟩ := drop_cons hR
        have := dlen (D := M) (Q := D ++ Q) b3 (by omega)
        rw [List.length_append] at this; omega
      rw [this]
      unfold sqV
      by_cases hc : Q.head? = some 93 ∧ 0 ≤ l2L D
      · rw [if_pos hc]
        have : 0 < Q.length := by
          cases Q with
          | nil => simp at hc
          | cons => simp
        exact ⟨_, _, _, rfl, by omega⟩
      · rw [if_neg hc]; exact ⟨_, _, _, rfl, Nat.le_refl _⟩
    by_cases h45 : R.head? = some 45
    · cases R with
      | nil => cases h45
      | cons x R => simp at h45; subst h45; exact key [45] R (-1) rfl (.inl ⟨rfl, rfl⟩)
    · exact key [] R 1 rfl (.inr ⟨rfl, rfl, h45⟩)
  · obtain ⟨D, Q, hDQ, hD, hQ⟩ := split_run ((bytesOf s).drop i)
    have hz := dlen hDQ hi
    rw [hDQ] at h91
    rw [readBy_plain s hs i from_ D Q hD hQ hDQ h91 hi K hK]
    by_cases h0 : D.length = 0
    · rw [if_pos h0]; exact ⟨_, _, _, rfl, hi⟩
    · rw [if_neg h0]; exact ⟨_, _, _, rfl, by omega⟩
theorem readBy_part (s : ByteArray) (hs : s.size ≤ 1048576) (i : Nat) (n from_ : Int) (fix : Bool) (Q : List Int) (hQ : Q = [] ∨ ∃ Q', Q = 67 :: Q') (hn1 : 1 ≤ n) (hn2 : n ≤ 1000) (hf1 : 1 ≤ from_) (hf2 : from_ ≤ 1000) (hd : (bytesOf s).drop i = pL n from_ fix ++ Q) (hi : i ≤ s.size) (K : Nat) (hK : s.size + 30 ≤ K) :
    spec_l3ReadBy.f K s (i : Int) from_ = some (n, fix, ((i + (pL n from_ fix).length : Nat) : Int)) := by
  have hq1 : ∀ x, Q.head? = some x → isD x = false := by
    intro x hx
    rcases hQ with rfl | ⟨Q', rfl⟩
    · cases hx
    · simp at hx; subst hx; rfl
  have hq2 : Q.head? ≠ some 91 := by
    rcases hQ with rfl | ⟨Q', rfl⟩ <;> simp
  cases fix
  · by_cases he : n = from_
    · have e : pL n from_ false = [] := by unfold pL; rw [if_neg (by decide), if_pos he]
      rw [e] at hd ⊢
      rw [readBy_plain s hs i from_ [] Q (by simp) hq1 hd (by simpa using hq2) hi K hK, if_pos (show ([] : List Int).length = 0 from rfl), he]; rfl
    · have e : pL n from_ false = 91 :: (txtL (n - from_) ++ [93]) := by unfold pL; rw [if_neg (by decide), if_neg he]
      rw [e] at hd ⊢
      have hq3 : ∀ x, (93 :: Q).head? = some x → isD x = false := by intro x hx; simp at hx; subst hx; rfl
      by_cases hlt : n - from_ < 0
      · rw [txtL_neg _ hlt] at hd ⊢
        rw [readBy_sq s hs i from_ (-1) [45] (txtL (-(n - from_))) (93 :: Q) (.inl ⟨rfl, rfl⟩) (txtL_D _ (by omega)) hq3 (by rw [hd]; simp) hi K hK, l2_txt _ (by omega) (by omega)]
        unfold sqV
        rw [if_pos ⟨rfl, by omega⟩, wrap_id (x := -1 * -(n - from_)) (by omega) (by omega), wrap_id (by omega) (by omega)]
        simp only [List.length_cons, List.length_append, List.length_nil]
        congr 2
        · omega
        · congr 2; omega
      · obtain ⟨u, hu⟩ : ∃ u, txtL (n - from_) = u := ⟨_, rfl⟩
        rw [readBy_sq s hs i from_ 1 [] (txtL (n - from_)) (93 :: Q) (.inr ⟨rfl, rfl, ?_⟩) (txtL_D _ (by omega)) hq3 (by rw [hd]; simp) hi K hK, l2_txt _ (by omega) (by omega)]
        · unfold sqV
          rw [if_pos ⟨rfl, by omega⟩, wrap_id (x := 1 * (n - from_)) (by omega) (by omega), wrap_id (by omega) (by omega)]
          simp only [List.length_cons, List.length_append, List.length_nil]
          congr 2
          · omega
          · congr 2; omega
        · have hne := txtL_ne (n - from_) (by omega)
          have hD := txtL_D (n - from_) (by omega)
          rw [hu] at hne hD ⊢
          cases u with
          | nil => exact absurd rfl hne
          | cons x u =>
            have := of_decide_eq_true (hD x (by simp))
            simp; omega
  · have e : pL n from_ true = txtL n := by unfold pL; rw [if_pos rfl]
    rw [e] at hd ⊢
    have hne := txtL_ne n (by omega)
    have hD := txtL_D n (by omega)
    have hl2 := l2_txt n hn1 hn2
    revert hne hD hl2 hd
    generalize txtL n = u
    intro hd hne hD hl2
    cases u with
    | nil => exact absurd rfl hne
    | cons x u =>
      have := of_decide_eq_true (hD x (by simp))
      rw [readBy_plain s hs i from_ (x :: u) Q hD hq1 hd (by simp; omega) hi K hK, if_neg (by simp), hl2]
/-! the reference's reader -/
def badR : Int × Int × Bool × Bool × Bool := (0, 0, false, false, false)
def okR (s : ByteArray) (row col : Int) (o : Int × Int × Bool × Bool × Bool) : Prop := o = badR ∨ ∃ r c a b, goodRefB r c = true ∧ byTxt r c a b row col = s ∧ o = (r, c, a, b, true)
theorem byTxt_eq (t s : ByteArray) : (t.toList = s.toList) ↔ t = s := by
  rw [toList_iff]; exact ⟨bytesOf_inj, fun h => by rw [h]⟩
theorem spec_tail (k : Nat) (s : ByteArray) (row col : Int) (hp : goodRefB row col = true) (r c : Int) (a b : Bool) :
    ∃ o, ((spec_GoodRef.f r c a b).bind fun t220 => if t220 = true then (spec_RefTextBy.f (k + 1) r c a b row col).bind fun t221 => if t221.toList = s.toList then some (r, c, a, b, true) else some (0, 0, false, false, false) else some (0, 0, false, false, false)) = some o ∧ okR s row col o ∧ (goodRefB r c = true → byTxt r c a b row col = s → o = (r, c, a, b, true)) := by
  rw [specGoodRef_is]
  simp only [Option.bind_some]
  by_cases g : goodRefB r c = true
  · rw [if_pos g, (refTextBy_is k r c a b row col g hp).1]
    simp only [Option.bind_some, byTxt_eq]
    by_cases e : byTxt r c a b row col = s
    · rw [if_pos e]; exact ⟨_, rfl, .inr ⟨r, c, a, b, g, e, rfl⟩, fun _ _ => rfl⟩
    · rw [if_neg e]; exact ⟨_, rfl, .inl rfl, fun _ h => absurd h e⟩
  · rw [if_neg g]; exact ⟨_, rfl, .inl rfl, fun h => absurd h g⟩
theorem bt0 (s : ByteArray) (x : Int) (R : List Int) (h : bytesOf s = x :: R) : 0 < s.size ∧ bt s 0 = x ∧ (bytesOf s).drop 1 = R := by
  have := drop_cons (s := s) (i := 0) (x := x) (R := R) (by simpa using h)
  exact this
theorem specRead (s : ByteArray) (hs : s.size ≤ 1048576) (row col : Int) (hp : goodRefB row col = true) (K : Nat) (hK : s.size + 40 ≤ K) :
    ∃ o, spec_ReadRefBy.f K s row col = some o ∧ okR s row col o ∧ ∀ r c a b, goodRefB r c = true → byTxt r c a b row col = s → o = (r, c, a, b, true) := by
  have hpn := place_nums hp
  obtain ⟨k, rfl⟩ : ∃ k, K = k + 1 + 1 + 1 := ⟨K - 3, by omega⟩
  unfold spec_ReadRefBy.f
  have hbad : spec_ReadRefBy.j0 (k + 1 + 1 + 1) s row col true = some badR := by simp only [spec_ReadRefBy.j0, if_true]; rfl
  by_cases h0 : s.size = 0
  · rw [if_pos (by omega), hbad]
    refine ⟨_, rfl, .inl rfl, fun r c a b _ h => ?_⟩
    have := congrArg ByteArray.size h
    unfold byTxt at this
    have z1 : (⟨#[82]⟩ : ByteArray).size = 1 := rfl
    simp only [ByteArray.size_append, z1] at this; omega
  · rw [if_neg (by omega), if_pos (by omega)]
    by_cases h82 : bt s 0 = 82
    · rw [if_pos h82, specPlace_is, hp]
      simp only [Option.bind_some, Bool.not_true, spec_ReadRefBy.j0, Bool.false_eq_true, if_false]
      obtain ⟨n, fx, j, h1, hj⟩ := readBy_total s hs 1 row (by omega) (k + 1 + 1) (by omega)
      have h1' := h1
      rw [show ((1 : Nat) : Int) = 1 from rfl] at h1
      rw [h1]
      simp only [Option.bind_some]
      have key : ∀ x : Bool, (x = true → j < s.size → bt s (j : Int) ≠ 67) → (x = false → j < s.size ∧ bt s (j : Int) = 67) → ∃ o, spec_ReadRefBy.j1 (k + 1 + 1) s row col (j : Int) x n 0 fx false = some o ∧ okR s row col o ∧ ∀ r c a b, goodRefB r c = true → byTxt r c a b row col = s → o = (r, c, a, b, true) := by
        intro x hx1 hx2
        have hcase : ∀ r c a b, goodRefB r c = true → byTxt r c a b row col = s → n = r ∧ fx = a ∧ x = false ∧ (bytesOf s).drop (j + 1) = pL c col b := by
          intro r c a b g e
          have hb := place_nums g
          have hL : bytesOf s = 82 :: (pL r row a ++ 67 :: pL c col b) := by rw [← e]; exact bytes_byTxt r c a b row col
          obtain ⟨_, _, d1⟩ := bt0 s _ _ hL
          have hr := readBy_part s hs 1 r row a (67 :: pL c col b) (.inr ⟨_, rfl⟩) hb.1 hb.2.1 hpn.1 hpn.2.1 d1 (by omega) (k + 1 + 1) (by omega)
          rw [h1'] at hr
          have hr' := Option.some.inj hr
          injection hr' with e1 e2
          injection e2 with e2 e3
          have ej : j = 1 + (pL r row a).length := by omega
          have d2 : (bytesOf s).drop j = 67 :: pL c col b := by
            rw [ej, ← List.drop_drop, d1, List.drop_left]
          obtain ⟨q1, q2, q3⟩ := drop_cons d2
          refine ⟨e1, e2, ?_, q3⟩
          cases x
          · rfl
          · exact absurd q2 (hx1 rfl q1)
        cases x
        · obtain ⟨hj1, hj2⟩ := hx2 rfl
          simp only [spec_ReadRefBy.j1, Bool.false_eq_true, if_false]
          obtain ⟨n2, fx2, j2, h2, _⟩ := readBy_total s hs (j + 1) col (by omega) (k + 1) (by omega)
          have h2' := h2
          rw [wrap_id (by omega) (by omega), show (j : Int) + 1 = ((j + 1 : Nat) : Int) from by omega, h2]
          simp only [Option.bind_some]
          obtain ⟨o, ho, hok, hcm⟩ := spec_tail k s row col hp n n2 fx fx2
          refine ⟨o, ho, hok, fun r c a b g e => ?_⟩
          have hb := place_nums g
          obtain ⟨e1, e2, _, d3⟩ := hcase r c a b g e
          have hr := readBy_part s hs (j + 1) c col b [] (.inl rfl) hb.2.2.1 (by omega) hpn.2.2.1 (by omega) (by simpa using d3) (by omega) (k + 1) (by omega)
          rw [h2'] at hr
          have hr' := Option.some.inj hr
          injection hr' with e3 e4
          injection e4 with e4 _
          subst e1; subst e2; subst e3; subst e4
          exact hcm g e
        · simp only [spec_ReadRefBy.j1, if_true]
          exact ⟨_, rfl, .inl rfl, fun r c a b g e => absurd (hcase r c a b g e).2.2.1 (by decide)⟩
      by_cases hj2 : s.size ≤ j
      · rw [if_pos (by omega)]; exact key true (fun _ h => absurd h (by omega)) (fun h => by cases h)
      · rw [if_neg (by omega), if_pos (by omega), if_pos (by omega)]
        refine key _ (fun h _ => by simpa using h) (fun h => ⟨by omega, by simpa using h⟩)
    · rw [if_neg h82, hbad]
      refine ⟨_, rfl, .inl rfl, fun r c a b _ h => ?_⟩
      have hL : bytesOf s = 82 :: (pL r row a ++ 67 :: pL c col b) := by rw [← h]; exact bytes_byTxt r c a b row col
      exact absurd (bt0 s _ _ hL).2.1 h82
/-! the program's reader -/
theorem hp_one (s : ByteArray) (c : UInt8) : strings_HasPrefix.f s (⟨#[c]⟩ : ByteArray) = some (decide ((bytesOf s).head? = some (c.toNat : Int))) := by
  unfold strings_HasPrefix.f Lib.hasPrefix bytesOf
  congr 1
  show List.isPrefixOf [c] s.data.toList = _
  cases s.data.toList with
  | nil => rfl
  | cons x l =>
    simp only [List.isPrefixOf, Bool.and_true, List.map_cons, List.head?_cons]
    by_cases h : c = x
    · subst h; simp
    · have h1 : (c == x) = false := by simpa using h
      have h2 : ¬ ((x.toNat : Int) = (c.toNat : Int)) := fun e => h (UInt8.toNat_inj.1 (by omega))
      rw [h1, decide_eq_false (by simpa using h2)]
theorem idx_map : ∀ (l : List UInt8) (c : UInt8) (P Q : List Int), l.map (fun b => (b.toNat : Int)) = P ++ (c.toNat : Int) :: Q → (c.toNat : Int) ∉ P → Lib.indexByte l c = (P.length : Int)
  | [], c, P, Q, h, _ => by cases P <;> cases h
  | b :: l, c, [], Q, h, _ => by
    simp at h
    have : b = c := UInt8.toNat_inj.1 (by omega)
    subst this
    simp [Lib.indexByte]
  | b :: l, c, p :: P, Q, h, hn => by
    simp only [List.map_cons, List.cons_append, List.cons.injEq] at h
    have ih := idx_map l c P Q h.2 (fun hm => hn (by simp [hm]))
    have hb : (b == c) = false := by
      simp only [beq_eq_false_iff_ne, ne_eq]
      intro e; subst e; exact hn (by simp [h.1])
    unfold Lib.indexByte
    rw [hb, ih]
    simp only [Bool.false_eq_true, if_false]
    rw [if_neg (by simp <;> omega)]; simp
theorem idx_cases (l : List UInt8) (c : UInt8) : Lib.indexByte l c < 0 ∨ ∃ o : Nat, Lib.indexByte l c = o ∧ o < l.length ∧ l[o]? = some c := by
  have h := Lib.indexByte_ge l c
  by_cases h0 : Lib.indexByte l c < 0
  · exact .inl h0
  · obtain ⟨o, ho⟩ : ∃ o : Nat, Lib.indexByte l c = o := ⟨(Lib.indexByte l c).toNat, by omega⟩
    have h2 := (Lib.indexByte_some ho).1
    refine .inr ⟨o, ho, ?_, h2⟩
    exact (List.getElem?_eq_some_iff.1 h2).1
theorem atoi_txt (n : Int) (h1 : -5000 ≤ n) (h2 : n ≤ 5000) (y : ByteArray) (hy : bytesOf y = txtL n) : strconv_Atoi.f y = some (n, none) := by
  have e : y = txt n := bytesOf_inj hy
  have hz := txt5 n h1 h2
  subst e
  unfold strconv_Atoi.f
  rw [if_pos (by omega)]
  unfold atoiV
  have hl : (txt n).data.toList = Lib.itoa n := by unfold txt; rfl
  rw [hl]
  have hz2 : (Lib.itoa n).length ≤ 5 := by
    have h3 : (txt n).size = (Lib.itoa n).length := by unfold txt; show (Lib.itoa n).toArray.size = _; simp
    omega
  rw [Lib.atoiAll_short _ (by omega)]
  have main : ∀ u : Nat, Lib.decNat (Lib.decDigits u) = some u := by
    intro u
    have hd := decFrom_dec u
    unfold Lib.decNat
    have hn : (Lib.decDigits u) ≠ [] := by
      intro h; have := Lib.decDigits_length u; rw [h] at this; have := Lib.nDigits_pos u; simp at *; omega
    cases h : Lib.decDigits u with
    | nil => exact absurd h hn
    | cons b r => rw [h] at hd; simp [hd]
  rcases Int.lt_or_le n 0 with h | h
  · have e1 : Lib.itoa n = 45 :: Lib.decDigits n.natAbs := by unfold Lib.itoa; rw [if_pos h]
    rw [e1]
    have e2 : Lib.atoi (45 :: Lib.decDigits n.natAbs) = some n := by
      have e3 : Lib.atoi (45 :: Lib.decDigits n.natAbs) = (Lib.decNat (Lib.decDigits n.natAbs)).map fun (m : Nat) => -(m : Int) := rfl
      rw [e3, main]
      simp; omega
    rw [e2]; rfl
  · obtain ⟨u, rfl⟩ : ∃ u : Nat, n = u := ⟨n.toNat, by omega⟩
    have e1 : Lib.itoa (u : Int) = Lib.decDigits u := by unfold Lib.itoa; rw [if_neg (by omega)]; simp
    rw [e1]
    have hm : ∀ b ∈ Lib.decDigits u, 48 ≤ b.toNat := by
      intro b hb
      rw [Lib.decDigits_eq] at hb
      obtain ⟨t, _, rfl⟩ := List.mem_map.1 hb
      simp only [Lib.dg, UInt8.toNat_ofNat']; omega
    have hn : (Lib.decDigits u) ≠ [] := by
      intro h; have := Lib.decDigits_length u; rw [h] at this; have := Lib.nDigits_pos u; simp at *; omega
    have hk := main u
    revert hk hm hn
    generalize Lib.decDigits u = l
    intro hm hn hk
    cases l with
    | nil => exact absurd rfl hn
    | cons b r =>
      have h48 := hm b (by simp)
      have n1 : (b == 45) = false := by
        simp; intro e; subst e; exact absurd h48 (by decide)
      have n2 : (b == 43) = false := by
        simp; intro e; subst e; exact absurd h48 (by decide)
      have e3 : Lib.atoi (b :: r) = if b == 45 then (Lib.decNat r).map (fun (m : Nat) => -(m : Int)) else if b == 43 then (Lib.decNat r).map (fun (m : Nat) => (m : Int)) else (Lib.decNat (b :: r)).map (fun (m : Nat) => (m : Int)) := rfl
      rw [n1, n2] at e3
      simp only [Bool.false_eq_true, if_false] at e3
      rw [e3, hk]; rfl
theorem digs_run (s : ByteArray) (hs : s.size ≤ 1048576) : ∀ (D Q : List Int) (k i : Nat), (∀ x ∈ D, isD x = true) → (∀ x, Q.head? = some x → isD x = false) → (bytesOf s).drop i = D ++ Q → i ≤ s.size →
    impl_digitsFrom.l0 (k + 1 + D.length) s (i : Int) = some ((i + D.length : Nat) : Int) := by
  intro D
  induction D with
  | nil =>
    intro Q k i _ hQ hd hi
    show impl_digitsFrom.l0 (k + 1) s _ = _
    simp only [impl_digitsFrom.l0, List.length_nil, Nat.add_zero]
    cases Q with
    | nil =>
      have := drop_nil (by simpa using hd)
      rw [if_neg (by omega)]
    | cons q Q =>
      obtain ⟨a1, a2, _⟩ := drop_cons (by simpa using hd)
      have := hQ q rfl
      unfold isD at this
      have := of_decide_eq_false this
      rw [if_pos (by omega), if_pos (by omega), a2]
      by_cases h : q ≥ 48
      · rw [if_pos h, if_neg (by omega)]
      · rw [if_neg h]
  | cons x D ih =>
    intro Q k i hD hQ hd hi
    obtain ⟨a1, a2, a3⟩ := drop_cons (by simpa using hd)
    have := ih Q k (i + 1) (fun y hy => hD y (by simp [hy])) hQ a3 (by omega)
    have hx := of_decide_eq_true (hD x (by simp))
    rw [show k + 1 + (x :: D).length = (k + 1 + D.length) + 1 from rfl]
    simp only [impl_digitsFrom.l0]
    rw [if_pos (by omega), if_pos (by omega), a2, if_pos (by omega), if_pos (by omega), wrap_id (by omega) (by omega), show (i : Int) + 1 = ((i + 1 : Nat) : Int) from by omega, this, List.length_cons, show i + 1 + D.length = i + (D.length + 1) from by omega]
theorem atoi_some (z : ByteArray) (h : z.size ≤ 1000) : ∃ v e, strconv_Atoi.f z = some (v, e) := by
  unfold strconv_Atoi.f
  rw [if_pos (by omega)]
  exact ⟨_, _, rfl⟩
theorem part_total (x : ByteArray) (hx : x.size ≤ 1000) (c : UInt8) (from_ : Int) (K : Nat) (hK : x.size + 20 ≤ K) :
    ∃ (n : Int) (fix : Bool) (rest : ByteArray) (ok : Bool), impl_readPartBy.f K x (⟨#[c]⟩ : ByteArray) from_ = some (n, fix, rest, ok) ∧ rest.size ≤ x.size := by
  have z0 : (⟨#[]⟩ : ByteArray).size = 0 := rfl
  unfold impl_readPartBy.f
  rw [hp_one]
  simp only [Option.bind_some]
  by_cases h : (bytesOf x).head? = some (c.toNat : Int)
  · rw [if_pos (decide_eq_true h)]
    have h1 : 1 ≤ x.size := by
      rw [← bytesOf_length x]
      cases hb : bytesOf x with
      | nil => rw [hb] at h; cases h
      | cons => simp
    rw [if_pos (by omega)]
    obtain ⟨y, hy⟩ : ∃ y, y = x.extract 1 x.size := ⟨_, rfl⟩
    rw [← hy]
    have hys : y.size = x.size - 1 := by rw [hy, ByteArray.size_extract]; omega
    rw [hp_one]
    simp only [Option.bind_some]
    by_cases h91 : (bytesOf y).head? = some (((91 : UInt8).toNat : Nat) : Int)
    · rw [if_pos (decide_eq_true h91)]
      unfold strings_IndexByte.f
      simp only [Option.bind_some]
      rw [show (93 : Int).toNat.toUInt8 = 93 from rfl]
      rcases idx_cases y.data.toList 93 with hn | ⟨o, ho, hol, hoc⟩
      · rw [if_pos hn]; exact ⟨_, _, _, _, rfl, by omega⟩
      · rw [ho, if_neg (by omega)]
        have hol' : o < y.size := by
          have e := bytesOf_length y
          unfold bytesOf at e
          rw [List.length_map] at e; omega
        have ho1 : 1 ≤ o := by
          rcases Nat.eq_zero_or_pos o with e | e
          · exfalso
            subst e
            unfold bytesOf at h91
            cases hd : y.data.toList with
            | nil => rw [hd] at hol; simp at hol
            | cons q l =>
              rw [hd] at hoc h91
              simp at hoc h91
              subst hoc
              exact absurd h91 (by decide)
          · exact e
        rw [if_pos (by omega), if_pos (by omega), Int.toNat_natCast]
        obtain ⟨v, e, hv⟩ := atoi_some (y.extract 1 o) (by rw [ByteArray.size_extract]; omega)
        rw [hv]
        simp only [Option.bind_some]
        by_cases c1 : e.isNone = true
        · rw [if_pos c1]
          by_cases c2 : v < -2000
          · rw [if_pos c2]; exact ⟨_, _, _, _, rfl, by omega⟩
          · rw [if_neg c2]
            by_cases c3 : v > 2000
            · rw [if_pos c3]; exact ⟨_, _, _, _, rfl, by omega⟩
            · rw [if_neg c3, wrap_id (x := (o : Int) + 1) (by omega) (by omega), if_pos (by omega), if_pos (by omega)]
              exact ⟨_, _, _, _, rfl, by rw [ByteArray.size_extract]; omega⟩
        · rw [if_neg c1]; exact ⟨_, _, _, _, rfl, by omega⟩
    · rw [if_neg (by simpa using h91)]
      obtain ⟨D, Q, hDQ, hD, hQ⟩ := split_run (bytesOf y)
      have hl : D.length + Q.length = y.size := by rw [← bytesOf_length y, hDQ, List.length_append]
      have hr := digs_run y (by omega) D Q (K - 1 - D.length) 0 hD hQ (by simpa using hDQ) (by omega)
      rw [show K - 1 - D.length + 1 + D.length = K from by omega, Nat.zero_add] at hr
      unfold impl_digitsFrom.f
      rw [show ((0 : Nat) : Int) = 0 from rfl] at hr
      rw [hr]
      simp only [Option.bind_some]
      by_cases c1 : ((D.length : Nat) : Int) = 0
      · rw [if_pos c1]; exact ⟨_, _, _, _, rfl, by omega⟩
      · rw [if_neg c1, if_pos (by omega), if_pos (by omega), Int.toNat_natCast]
        obtain ⟨v, e, hv⟩ := atoi_some (y.extract 0 D.length) (by rw [ByteArray.size_extract]; omega)
        rw [hv]
        simp only [Option.bind_some]
        by_cases c2 : e.isNone = true
        · rw [if_pos c2]; exact ⟨_, _, _, _, rfl, by rw [ByteArray.size_extract]; omega⟩
        · rw [if_neg c2]; exact ⟨_, _, _, _, rfl, by omega⟩
  · rw [if_neg (by simpa using h)]; exact ⟨_, _, _, _, rfl, by omega⟩
theorem part_is (x : ByteArray) (hx : x.size ≤ 1000) (c : UInt8) (n from_ : Int) (fix : Bool) (Q : List Int) (hQ : Q = [] ∨ ∃ Q', Q = 67 :: Q') (hn1 : 1 ≤ n) (hn2 : n ≤ 1000) (hf1 : 1 ≤ from_) (hf2 : from_ ≤ 1000) (hb : bytesOf x = (c.toNat : Int) :: (pL n from_ fix ++ Q)) (K : Nat) (hK : x.size + 20 ≤ K) :
    ∃ rest, impl_readPartBy.f K x (⟨#[c]⟩ : ByteArray) from_ = some (n, fix, rest, true) ∧ bytesOf rest = Q := by
  have hq1 : ∀ x, Q.head? = some x → isD x = false := by
    intro x hx
    rcases hQ with rfl | ⟨Q', rfl⟩
    · cases hx
    · simp at hx; subst hx; rfl
  have hq2 : Q.head? ≠ some 91 := by
    rcases hQ with rfl | ⟨Q', rfl⟩ <;> simp
  have hxl := bytesOf_length x
  unfold impl_readPartBy.f
  rw [hp_one]
  simp only [Option.bind_some]
  rw [if_pos (decide_eq_true (by rw [hb]; rfl))]
  have h1 : 1 ≤ x.size := by rw [← hxl, hb]; simp
  rw [if_pos (by omega)]
  obtain ⟨y, hy⟩ : ∃ y, y = x.extract 1 x.size := ⟨_, rfl⟩
  rw [← hy]
  have hys : y.size = x.size - 1 := by rw [hy, ByteArray.size_extract]; omega
  have hyb : bytesOf y = pL n from_ fix ++ Q := by
    rw [hy, ext_list, hb]
    simp only [List.drop_succ_cons, List.drop_zero]
    refine List.take_of_length_le ?_
    rw [hb] at hxl; simp at hxl ⊢; omega
  have hyl := bytesOf_length y
  rw [hp_one]
  simp only [Option.bind_some]
  cases fix
  · by_cases he : n = from_
    · have e : pL n from_ false = [] := by unfold pL; rw [if_neg (by decide), if_pos he]
      rw [e, List.nil_append] at hyb
      rw [if_neg (by rw [hyb]; simpa using hq2)]
      have hr := digs_run y (by omega) [] Q (K - 1) 0 (by simp) hq1 (by simpa using hyb) (by omega)
      rw [show K - 1 + 1 + ([] : List Int).length = K from by simp; omega] at hr
      unfold impl_digitsFrom.f
      rw [show ((0 : Nat) : Int) = 0 from rfl] at hr
      rw [hr]
      simp only [Option.bind_some, List.length_nil]
      rw [if_pos (show ((0 + 0 : Nat) : Int) = 0 from rfl), he]
      exact ⟨y, rfl, hyb⟩
    · have e : pL n from_ false = 91 :: (txtL (n - from_) ++ [93]) := by unfold pL; rw [if_neg (by decide), if_neg he]
      rw [e] at hyb
      rw [if_pos (decide_eq_true (by rw [hyb]; rfl))]
      unfold strings_IndexByte.f
      simp only [Option.bind_some]
      rw [show (93 : Int).toNat.toUInt8 = 93 from rfl]
      have h93 : (93 : Int) ∉ 91 :: txtL (n - from_) := by
        intro hm
        rcases List.mem_cons.1 hm with h | h
        · cases h
        · rcases Int.lt_or_le (n - from_) 0 with hl | hl
          · rw [txtL_neg _ hl] at h
            rcases List.mem_cons.1 h with h | h
            · cases h
            · exact absurd (txtL_D _ (by omega) _ h) (by decide)
          · exact absurd (txtL_D _ hl _ h) (by decide)
      have hi := idx_map y.data.toList 93 (91 :: txtL (n - from_)) Q (by show bytesOf y = _; rw [hyb]; simp) h93
      obtain ⟨m, hm⟩ : ∃ m, m = (txtL (n - from_)).length := ⟨_, rfl⟩
      rw [List.length_cons, ← hm] at hi
      have hlen : y.size = m + 2 + Q.length := by rw [← hyl, hyb]; simp [hm]; omega
      rw [hi, if_neg (by omega), if_pos (by omega), if_pos (by omega), Int.toNat_natCast]
      have hz : bytesOf (y.extract 1 (m + 1)) = txtL (n - from_) := by
        rw [ext_list, hyb]
        simp only [List.cons_append, List.drop_succ_cons, List.drop_zero, List.append_assoc]
        rw [show m + 1 - 1 = (txtL (n - from_)).length from by omega, List.take_left]
      rw [atoi_txt (n - from_) (by omega) (by omega) _ hz]
      simp only [Option.bind_some, Option.isNone_none, if_true]
      rw [if_neg (by omega), if_neg (by omega), wrap_id (x := ((m + 1 : Nat) : Int) + 1) (by omega) (by omega), if_pos (by omega), if_pos (by omega), wrap_id (x := from_ + (n - from_)) (by omega) (by omega)]
      refine ⟨y.extract (((m + 1 : Nat) : Int) + 1).toNat y.size, by rw [show from_ + (n - from_) = n from by omega], ?_⟩
      rw [ext_list, hyb, show (((m + 1 : Nat) : Int) + 1).toNat = (91 :: (txtL (n - from_) ++ [93])).length from by simp [← hm]; omega, List.drop_left]
      exact List.take_of_length_le (by simp [← hm]; omega)
  · have e : pL n from_ true = txtL n := by unfold pL; rw [if_pos rfl]
    rw [e] at hyb
    have hne := txtL_ne n (by omega)
    have hD := txtL_D n (by omega)
    have h91 : ¬ (bytesOf y).head? = some (((91 : UInt8).toNat : Nat) : Int) := by
      rw [hyb]
      cases hu : txtL n with
      | nil => exact absurd hu hne
      | cons q u =>
        have := of_decide_eq_true (hD q (by rw [hu]; simp))
        simp; omega
    rw [if_neg (by simpa using h91)]
    have hl : (txtL n).length + Q.length = y.size := by rw [← hyl, hyb, List.length_append]
    have hp : 0 < (txtL n).length := List.length_pos_iff.2 hne
    have hr := digs_run y (by omega) (txtL n) Q (K - 1 - (txtL n).length) 0 hD hq1 (by simpa using hyb) (by omega)
    rw [show K - 1 - (txtL n).length + 1 + (txtL n).length = K from by omega, Nat.zero_add] at hr
    unfold impl_digitsFrom.f
    rw [show ((0 : Nat) : Int) = 0 from rfl] at hr
    rw [hr]
    simp only [Option.bind_some]
    rw [if_neg (by omega), if_pos (by omega), if_pos (by omega), Int.toNat_natCast]
    have hz : bytesOf (y.extract 0 (txtL n).length) = txtL n := by
      rw [ext_list, hyb, List.drop_zero, Nat.sub_zero, List.take_left]
    rw [atoi_txt n (by omega) (by omega) _ hz]
    simp only [Option.bind_some, Option.isNone_none, if_true]
    refine ⟨_, rfl, ?_⟩
    rw [ext_list, hyb, List.drop_left]
    exact List.take_of_length_le (by omega)
theorem impl_tail (k : Nat) (s : ByteArray) (row col : Int) (hp : goodRefB row col = true) (r c : Int) (a b : Bool) :
    ∃ o, ((impl_GoodRef.f r c a b).bind fun t297 => if t297 = true then (impl_RefTextBy.f (k + 1) r c a b row col).bind fun t298 => if t298.toList = s.toList then some (r, c, a, b, true) else some (0, 0, false, false, false) else some (0, 0, false, false, false)) = some o ∧ okR s row col o ∧ (goodRefB r c = true → byTxt r c a b row col = s → o = (r, c, a, b, true)) := by
  rw [implGoodRef_is]
  simp only [Option.bind_some]
  by_cases g : goodRefB r c = true
  · rw [if_pos g, (refTextBy_is k r c a b row col g hp).2]
    simp only [Option.bind_some, byTxt_eq]
    by_cases e : byTxt r c a b row col = s
    · rw [if_pos e]; exact ⟨_, rfl, .inr ⟨r, c, a, b, g, e, rfl⟩, fun _ _ => rfl⟩
    · rw [if_neg e]; exact ⟨_, rfl, .inl rfl, fun _ h => absurd h e⟩
  · rw [if_neg g]; exact ⟨_, rfl, .inl rfl, fun h => absurd h g⟩
theorem implRead (s : ByteArray) (row col : Int) (hp : goodRefB row col = true) (K : Nat) (hK : s.size + 40 ≤ K) :
    ∃ o, impl_ReadRefBy.f K s row col = some o ∧ okR s row col o ∧ ∀ r c a b, goodRefB r c = true → byTxt r c a b row col = s → o = (r, c, a, b, true) := by
  have hpn := place_nums hp
  obtain ⟨k, rfl⟩ : ∃ k, K = k + 1 + 1 := ⟨K - 2, by omega⟩
  unfold impl_ReadRefBy.f
  by_cases h0 : s.size > 40
  · rw [if_pos (by omega)]
    simp only [impl_ReadRefBy.j0, if_true]
    exact ⟨_, rfl, .inl rfl, fun r c a b g e => absurd (byTxt_le r c a b row col g hp) (by rw [e]; omega)⟩
  · rw [if_neg (by omega), implPlace_is, hp]
    simp only [Option.bind_some, Bool.not_true, impl_ReadRefBy.j0, Bool.false_eq_true, if_false]
    obtain ⟨n, fx, rest, ok, h1, hr1⟩ := part_total s (by omega) 82 row (k + 1) (by omega)
    have h1' := h1
    rw [h1]
    simp only [Option.bind_some]
    have hL : ∀ r c a b, byTxt r c a b row col = s → bytesOf s = ((82 : UInt8).toNat : Int) :: (pL r row a ++ 67 :: pL c col b) := by
      intro r c a b e; rw [← e]; exact bytes_byTxt r c a b row col
    have hc1 : ∀ r c a b, goodRefB r c = true → byTxt r c a b row col = s → n = r ∧ fx = a ∧ ok = true ∧ bytesOf rest = 67 :: pL c col b := by
      intro r c a b g e
      have hb := place_nums g
      obtain ⟨rest', hx, hy⟩ := part_is s (by omega) 82 r row a (67 :: pL c col b) (.inr ⟨_, rfl⟩) hb.1 hb.2.1 hpn.1 hpn.2.1 (hL r c a b e) (k + 1) (by omega)
      rw [h1'] at hx
      have hx' := Option.some.inj hx
      injection hx' with e1 e2
      injection e2 with e2 e3
      injection e3 with e3 e4
      exact ⟨e1, e2, e4, by rw [e3]; exact hy⟩
    by_cases hok : ok = true
    · rw [if_pos hok]
      obtain ⟨n2, fx2, rest2, ok2, h2, hr2⟩ := part_total rest (by omega) 67 col (k + 1) (by omega)
      have h2' := h2
      rw [h2]
      simp only [Option.bind_some]
      have hc2 : ∀ r c a b, goodRefB r c = true → byTxt r c a b row col = s → n2 = c ∧ fx2 = b ∧ ok2 = true ∧ rest2.toList = ([] : List UInt8) := by
        intro r c a b g e
        have hb := place_nums g
        obtain ⟨rest', hx, hy⟩ := part_is rest (by omega) 67 c col b [] (.inl rfl) hb.2.2.1 (by omega) hpn.2.2.1 (by omega) (by rw [(hc1 r c a b g e).2.2.2]; simp) (k + 1) (by omega)
        rw [h2'] at hx
        have hx' := Option.some.inj hx
        injection hx' with e1 e2
        injection e2 with e2 e3
        injection e3 with e3 e4
        refine ⟨e1, e2, e4, ?_⟩
        rw [e3, ByteArray.toList_eq]
        unfold bytesOf at hy
        simpa using hy
      by_cases hok2 : ok2 = true
      · rw [if_pos hok2]
        by_cases hemp : rest2.toList = ([] : List UInt8)
        · rw [if_pos hemp]
          obtain ⟨o, ho, hk, hcm⟩ := impl_tail k s row col hp n n2 fx fx2
          refine ⟨o, ho, hk, fun r c a b g e => ?_⟩
          obtain ⟨e1, e2, _, _⟩ := hc1 r c a b g e
          obtain ⟨e3, e4, _, _⟩ := hc2 r c a b g e
          subst e1; subst e2; subst e3; subst e4
          exact hcm g e
        · rw [if_neg hemp]
          exact ⟨_, rfl, .inl rfl, fun r c a b g e => absurd (hc2 r c a b g e).2.2.2 hemp⟩
      · rw [if_neg hok2]
        exact ⟨_, rfl, .inl rfl, fun r c a b g e => absurd (hc2 r c a b g e).2.2.1 hok2⟩
    · rw [if_neg hok]
      exact ⟨_, rfl, .inl rfl, fun r c a b g e => absurd (hc1 r c a b g e).2.2.1 hok⟩
theorem bad_spec (s : ByteArray) (row col : Int) (hp : goodRefB row col = false) (k : Nat) : spec_ReadRefBy.f (k + 1) s row col = some badR := by
  have hbad : spec_ReadRefBy.j0 (k + 1) s row col true = some badR := by simp only [spec_ReadRefBy.j0, if_true]; rfl
  unfold spec_ReadRefBy.f
  by_cases h0 : s.size = 0
  · rw [if_pos (by omega), hbad]
  · rw [if_neg (by omega), if_pos (by omega)]
    by_cases h82 : bt s 0 = 82
    · rw [if_pos h82, specPlace_is, hp]
      simp only [Option.bind_some, Bool.not_false]
      exact hbad
    · rw [if_neg h82, hbad]
theorem bad_impl (s : ByteArray) (row col : Int) (hp : goodRefB row col = false) (k : Nat) : impl_ReadRefBy.f (k + 1) s row col = some badR := by
  have hbad : impl_ReadRefBy.j0 (k + 1) s row col true = some badR := by simp only [impl_ReadRefBy.j0, if_true]; rfl
  unfold impl_ReadRefBy.f
  by_cases h0 : s.size > 40
  · rw [if_pos (by omega), hbad]
  · rw [if_neg (by omega), implPlace_is, hp]
    simp only [Option.bind_some, Bool.not_false]
    exact hbad
theorem readBy_same (s : ByteArray) (hs : s.size ≤ 1048576) (row col : Int) : ∃ o, spec_ReadRefBy.f (s.size + 60) s row col = some o ∧ impl_ReadRefBy.f (s.size + 60) s row col = some o := by
  cases hp : goodRefB row col
  · exact ⟨_, bad_spec s row col hp _, bad_impl s row col hp _⟩
  · obtain ⟨o1, h1, k1, c1⟩ := specRead s hs row col hp (s.size + 60) (by omega)
    obtain ⟨o2, h2, k2, c2⟩ := implRead s row col hp (s.size + 60) (by omega)
    have e : o2 = o1 := by
      rcases k1 with k1 | ⟨r, c, a, b, g, e, k1⟩
      · rcases k2 with k2 | ⟨r, c, a, b, g, e, k2⟩
        · rw [k1, k2]
        · rw [k2, c1 r c a b g e]
      · rw [k1, c2 r c a b g e]
    exact ⟨o1, h1, by rw [h2, e]⟩
theorem FnExactReadRefBy : ∀ (a0 : ByteArray) (a1 : Int) (a2 : Int), a0.size ≤ maxLen → (Lit.int .i64 a1).wf = true → (Lit.int .i64 a2).wf = true → ∃ k, laws_FnExactReadRefBy.f k a0 a1 a2 = some true := by
  intro s row col _ _ _
  refine ⟨s.size + 60, ?_⟩
  unfold laws_FnExactReadRefBy.f
  by_cases h : (s.size : Int) > 1048576
  · rw [if_pos h]
  · obtain ⟨o, h1, h2⟩ := readBy_same s (by omega) row col
    rw [if_neg h, h1, h2]
    simp only [Option.bind_some]
    unfold laws_eqRef.f
    simp

end Go.Proofs.YtghglglbajnncaaDoor.Pure
