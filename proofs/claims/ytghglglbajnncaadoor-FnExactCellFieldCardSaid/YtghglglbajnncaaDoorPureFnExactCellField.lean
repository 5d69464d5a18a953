/- The plain law of FnExactCellField: what the program computes is what the reference computes, for every input (no further condition). -/
import Derived.Test.YtghglglbajnncaaDoorMFnExactCellFielda10
namespace Go.Proofs.YtghglglbajnncaaDoor.Pure
open Go.RowKit Go.Proofs.YtghglglbajnncaaDoor.PFnExactCellField Go.Proofs.YtghglglbajnncaaDoorW.PrintWords Go.Proofs.YtghglglbajnncaaDoorW.PrintLast

set_option linter.unusedVariables false
set_option linter.unusedSimpArgs false
/-- A number's decimal text. -/
def txt (n : Int) : ByteArray := ⟨(Lib.itoa n).toArray⟩
theorem l1Num_is (n : Int) (h1 : -1000000000000000000 < n) (h2 : n < 1000000000000000000) : spec_l1Num.f n = some (txt n) := by unfold spec_l1Num.f; rw [if_pos ⟨h1, h2⟩]; rfl
theorem itoa_is (n : Int) (h1 : -1000000000000000000 < n) (h2 : n < 1000000000000000000) : strconv_Itoa.f n = some (txt n) := by unfold strconv_Itoa.f; rw [if_pos ⟨by omega, by omega⟩]; rfl
theorem txt_le (n : Int) (h1 : -1000000000000000000 < n) (h2 : n < 1000000000000000000) : (txt n).size ≤ 21 := by
  have := Lib.itoa_length_le n (by omega) (by omega)
  show (Lib.itoa n).toArray.size ≤ 21
  simpa using this

theorem txt_neg (d : Int) (h : d < 0) : txt d = (⟨#[45]⟩ : ByteArray) ++ txt (-d) := by
  have e1 : Lib.itoa d = 45 :: Lib.decDigits d.natAbs := by unfold Lib.itoa; rw [if_pos h]
  have e2 : Lib.itoa (-d) = Lib.decDigits d.natAbs := by unfold Lib.itoa; rw [if_neg (by omega)]; congr 1; omega
  apply ByteArray.ext
  show (Lib.itoa d).toArray = _
  rw [e1, ByteArray.data_append]
  show _ = #[45] ++ (Lib.itoa (-d)).toArray
  rw [e2]; simp
theorem txt_size (u : Nat) : (txt (u : Int)).size = Lib.nDigits u := by
  have e : Lib.itoa (u : Int) = Lib.decDigits u := by unfold Lib.itoa; rw [if_neg (by omega)]; simp
  show (Lib.itoa (u : Int)).toArray.size = _
  rw [e]; simp [Lib.decDigits_length]
theorem txt_pos (n : Int) (h1 : -1000000000000000000 < n) (h2 : n < 1000000000000000000) : 1 ≤ (txt n).size := by
  rcases Int.lt_or_le n 0 with h | h
  · rw [txt_neg n h, ByteArray.size_append]; show 1 ≤ 1 + _; omega
  · obtain ⟨u, rfl⟩ : ∃ u : Nat, n = u := ⟨n.toNat, by omega⟩
    rw [txt_size]; exact Lib.nDigits_pos u
theorem ba_assoc (a b c : ByteArray) : a ++ b ++ c = a ++ (b ++ c) := ByteArray.append_assoc
theorem ba_ext {a b : ByteArray} (h : a.data.toList = b.data.toList) : a = b := ByteArray.ext (Array.toList_inj.1 h)

/-- So many noughts. -/
def zeros (q : Nat) : ByteArray := strOfNums (List.replicate q 48)
theorem zeros_size (q : Nat) : (zeros q).size = q := by unfold zeros strOfNums; show ((List.replicate q (48 : Int)).map _).toArray.size = q; simp
theorem zeros_add (a b : Nat) : zeros (a + b) = zeros a ++ zeros b := by
  apply ba_ext
  unfold zeros strOfNums
  rw [ByteArray.data_append]
  simp [List.replicate_append_replicate]
theorem nought_l0 (q : Nat) (hq : q ≤ 100000) : ∀ (d k i : Nat), i + d = q → d < k → spec_l1Nought.l0 k (List.replicate i 48 ++ List.replicate d 0) (q : Int) (i : Int) = some (zeros q) := by
  intro d
  induction d with
  | zero =>
    intro k i h hk
    obtain ⟨k, rfl⟩ : ∃ m, k = m + 1 := ⟨k - 1, by omega⟩
    obtain rfl : i = q := by omega
    simp only [spec_l1Nought.l0]
    rw [if_neg (by omega)]
    simp [zeros]
  | succ d ih =>
    intro k i h hk
    obtain ⟨k, rfl⟩ : ∃ m, k = m + 1 := ⟨k - 1, by omega⟩
    simp only [spec_l1Nought.l0]
    rw [if_pos (by omega), if_pos (by omega), if_pos (by simp; omega), wrap_id (by omega) (by omega)]
    have e : (List.replicate i (48 : Int) ++ List.replicate (d + 1) 0).set ((i : Int)).toNat 48 = List.replicate (i + 1) 48 ++ List.replicate d 0 := by
      rw [Int.toNat_natCast, List.set_append, if_neg (by simp)]
      simp only [List.length_replicate, Nat.sub_self, List.replicate_succ, List.set_cons_zero]
      rw [show (48 : Int) :: List.replicate i 48 = List.replicate i 48 ++ [48] from by rw [← List.replicate_succ, List.replicate_succ'], List.append_assoc]; rfl
    rw [e, show ((i : Int) + 1) = ((i + 1 : Nat) : Int) from by omega]
    exact ih k (i + 1) (by omega) (by omega)
theorem nought_is (q : Nat) (hq : q ≤ 100000) (k : Nat) (hk : q < k) : spec_l1Nought.f k (q : Int) = some (zeros q) := by
  unfold spec_l1Nought.f
  rw [if_pos (by omega), Int.toNat_natCast, if_pos (by omega)]
  simp only [Option.bind_some]
  have := nought_l0 q hq q k 0 (by omega) hk
  simpa using this

theorem zeros_none : zeros 0 = ByteArray.empty := rfl
theorem e_app (x : ByteArray) : (⟨#[]⟩ : ByteArray) ++ x = x := ByteArray.empty_append

theorem nd15 : ∀ (u : Nat), u ≤ 999999999999999999 → Lib.nDigits u ≤ 18 := by
  intro u h
  have h1 : ∀ (j v : Nat), v < 10 ^ j → 1 ≤ j → Lib.nDigits v ≤ j := by
    intro j
    induction j with
    | zero => intro v _ h; omega
    | succ j ih =>
      intro v hv _
      by_cases hs : v < 10
      · rw [Lib.nDigits_small hs]; omega
      · rw [Lib.nDigits_big hs]
        have hj : 1 ≤ j := by
          rcases Nat.eq_zero_or_pos j with rfl | h'
          · simp at hv; omega
          · exact h'
        have := ih (v / 10) (by rw [Nat.div_lt_iff_lt_mul (by decide)]; rw [Nat.pow_succ] at hv; exact hv) hj
        omega
  exact h1 18 u (by omega) (by omega)
theorem rep_one : ∀ (c : Nat), Lib.repeatL [48] c = List.replicate c (UInt8.ofNat (48 : Int).toNat)
  | 0 => rfl
  | c + 1 => by
    show [48] ++ Lib.repeatL [48] c = _
    rw [rep_one c, List.replicate_succ]; rfl

def sgB (n : Bool) : ByteArray := if n then (⟨#[45]⟩ : ByteArray) else ⟨#[]⟩
def mant (T : ByteArray) : ByteArray := if (T.size : Int) > 1 then T.extract 0 1 ++ ((⟨#[46]⟩ : ByteArray) ++ T.extract 1 T.size) else T.extract 0 1
def expo (t : Int) : ByteArray := if t < 0 then (⟨#[69, 45]⟩ : ByteArray) ++ txt (-t) else (⟨#[69, 43]⟩ : ByteArray) ++ txt t
/-- A decimal's text without its sign: T the digits, t the power of ten of the first one. -/
def decBody (T : ByteArray) (e t : Int) : ByteArray :=
  if 0 ≤ e ∧ t < 15 then T ++ zeros e.toNat
  else if e < 0 ∧ 0 ≤ t then (T.extract 0 (t + 1).toNat ++ (⟨#[46]⟩ : ByteArray)) ++ T.extract (t + 1).toNat T.size
  else if e < 0 ∧ -5 ≤ t then ((⟨#[48, 46]⟩ : ByteArray) ++ zeros (-t - 1).toNat) ++ T
  else mant T ++ expo t
theorem ex_le (T : ByteArray) (a b : Nat) : (T.extract a b).size ≤ T.size := by rw [ByteArray.size_extract]; omega
theorem sg_app (n : Bool) (x : ByteArray) : sgB n ++ x = if n then (⟨#[45]⟩ : ByteArray) ++ x else x := by
  cases n
  · exact ByteArray.empty_append
  · rfl
theorem mant_le (T : ByteArray) (h : T.size ≤ 20) : (mant T).size ≤ 50 := by
  have := ex_le T 0 1; have := ex_le T 1 T.size; have z : (⟨#[46]⟩ : ByteArray).size = 1 := rfl
  unfold mant; split
  · rw [ByteArray.size_append, ByteArray.size_append, z]; omega
  · omega
theorem specJ3 (k : Nat) (t : Int) (m : ByteArray) (n : Bool) (d e : Int) (ht : -1000 ≤ t) (ht2 : t ≤ 1000) (hm : m.size ≤ 100) : spec_DecText.j3 (k + 1) t m n d e = some (sgB n ++ (m ++ expo t)) := by
  have z1 : (⟨#[69, 45]⟩ : ByteArray).size = 2 := rfl
  have z2 : (⟨#[69, 43]⟩ : ByteArray).size = 2 := rfl
  have l1 := txt_le t (by omega) (by omega)
  have l2 := txt_le (-t) (by omega) (by omega)
  simp only [spec_DecText.j3]
  rw [sg_app]
  unfold expo
  by_cases h : t < 0
  · rw [if_pos h, if_pos h, wrap_id (by omega) (by omega), l1Num_is (-t) (by omega) (by omega)]
    simp only [Option.bind_some, ByteArray.size_append, z1]
    rw [if_pos (by omega), if_pos (by omega)]
    cases n <;> simp <;> omega
  · rw [if_neg h, if_neg h, l1Num_is t (by omega) (by omega)]
    simp only [Option.bind_some, ByteArray.size_append, z2]
    rw [if_pos (by omega), if_pos (by omega)]
    cases n <;> simp <;> omega
theorem specChain (k : Nat) (hk : 1000 ≤ k) (T : ByteArray) (n : Bool) (d e t : Int) (h1 : 1 ≤ T.size) (h2 : T.size ≤ 20) (he : -300 ≤ e) (he2 : e ≤ 300) (ht : t = (T.size : Int) - 1 + e) :
    (if e ≥ 0 then spec_DecText.j0 k T t (decide (t < 15)) n d e else spec_DecText.j0 k T t false n d e) = some (sgB n ++ decBody T e t) := by
  obtain ⟨k, rfl⟩ : ∃ m, k = m + 4 := ⟨k - 4, by omega⟩
  have z1 : (⟨#[45]⟩ : ByteArray).size = 1 := rfl
  have z2 : (⟨#[46]⟩ : ByteArray).size = 1 := rfl
  have z3 : (⟨#[48, 46]⟩ : ByteArray).size = 2 := rfl
  have x1 := ex_le T 0 (t + 1).toNat
  have x2 := ex_le T (t + 1).toNat T.size
  have x3 := ex_le T 0 1
  have x4 := ex_le T 1 T.size
  unfold decBody
  by_cases a : 0 ≤ e
  · rw [if_pos a]
    by_cases b : t < 15
    · rw [decide_eq_true b, if_pos ⟨a, b⟩, sg_app]
      simp only [spec_DecText.j0, if_true]
      obtain ⟨q, rfl⟩ : ∃ q : Nat, e = q := ⟨e.toNat, by omega⟩
      rw [nought_is q (by omega) _ (by omega)]
      simp only [Option.bind_some, ByteArray.size_append, zeros_size, Int.toNat_natCast]
      rw [if_pos (by omega)]
      cases n <;> simp <;> omega
    · rw [decide_eq_false b, if_neg (by omega), if_neg (by omega), if_neg (by omega)]
      simp only [spec_DecText.j0, Bool.false_eq_true, if_false]
      rw [if_neg (by omega)]
      simp only [spec_DecText.j1, Bool.false_eq_true, if_false]
      rw [if_neg (by omega)]
      simp only [spec_DecText.j2, Bool.false_eq_true, if_false]
      rw [if_pos (by omega), if_pos (by omega)]
      unfold mant
      by_cases c : (T.size : Int) > 1
      · rw [if_pos c, if_pos c]
        simp only [ByteArray.size_append, z2]
        rw [if_pos (by omega), if_pos (by omega)]
        exact specJ3 _ t _ n d e (by omega) (by omega) (by simp only [ByteArray.size_append, z2]; omega)
      · rw [if_neg c, if_neg c]
        exact specJ3 _ t _ n d e (by omega) (by omega) (by omega)
  · rw [if_neg a, if_neg (by omega)]
    simp only [spec_DecText.j0, Bool.false_eq_true, if_false]
    rw [if_pos (by omega)]
    by_cases b : 0 ≤ t
    · rw [decide_eq_true b, if_pos ⟨by omega, b⟩, sg_app]
      simp only [spec_DecText.j1, if_true]
      rw [wrap_id (x := t + 1) (by omega) (by omega), if_pos (by omega), if_pos (by omega)]
      simp only [ByteArray.size_append, z2]
      rw [if_pos (by omega), if_pos (by omega)]
      cases n <;> simp <;> omega
    · rw [decide_eq_false b, if_neg (by omega)]
      simp only [spec_DecText.j1, Bool.false_eq_true, if_false]
      rw [if_pos (by omega)]
      by_cases c : -5 ≤ t
      · rw [decide_eq_true c, if_pos ⟨by omega, c⟩, sg_app]
        simp only [spec_DecText.j2, if_true]
        rw [wrap_id (x := -t) (by omega) (by omega), wrap_id (x := -t - 1) (by omega) (by omega)]
        obtain ⟨q, hq⟩ : ∃ q : Nat, -t - 1 = q := ⟨(-t - 1).toNat, by omega⟩
        rw [hq, nought_is q (by omega) _ (by omega)]
        simp only [Option.bind_some, ByteArray.size_append, zeros_size, Int.toNat_natCast, z3]
        rw [if_pos (by omega), if_pos (by omega)]
        cases n <;> simp <;> omega
      · rw [decide_eq_false c, if_neg (by omega)]
        simp only [spec_DecText.j2, Bool.false_eq_true, if_false]
        rw [if_pos (by omega), if_pos (by omega)]
        unfold mant
        by_cases c : (T.size : Int) > 1
        · rw [if_pos c, if_pos c]
          simp only [ByteArray.size_append, z2]
          rw [if_pos (by omega), if_pos (by omega)]
          exact specJ3 _ t _ n d e (by omega) (by omega) (by simp only [ByteArray.size_append, z2]; omega)
        · rw [if_neg c, if_neg c]
          exact specJ3 _ t _ n d e (by omega) (by omega) (by omega)
theorem repeat_is (c : Nat) (hc : c ≤ 100000) : strings_Repeat.f (⟨#[48]⟩ : ByteArray) (c : Int) = some (zeros c) := by
  unfold strings_Repeat.f
  rw [if_pos ⟨by omega, by omega, by show 1 ≤ 1000000; omega⟩, Int.toNat_natCast]
  congr 1
  apply ba_ext
  show (Lib.repeatL [48] c).toArray.toList = _
  unfold zeros strOfNums
  simp only [List.toList_toArray, List.map_replicate]
  exact rep_one c
theorem implJ3 (k : Nat) (t : Int) (m : ByteArray) (ht : -1000 ≤ t) (ht2 : t ≤ 1000) (hm : m.size ≤ 100) : impl_DecText.j3 (k + 1) t m = some (m ++ expo t) := by
  have z1 : (⟨#[69, 45]⟩ : ByteArray).size = 2 := rfl
  have z2 : (⟨#[69, 43]⟩ : ByteArray).size = 2 := rfl
  have l1 := txt_le t (by omega) (by omega)
  have l2 := txt_le (-t) (by omega) (by omega)
  simp only [impl_DecText.j3]
  unfold expo
  by_cases h : t < 0
  · rw [if_pos h, if_pos h, if_pos (by omega), wrap_id (by omega) (by omega), itoa_is (-t) (by omega) (by omega)]
    simp only [Option.bind_some, ByteArray.size_append, z1]
    rw [if_pos (by omega), ba_assoc]
  · rw [if_neg h, if_neg h, if_pos (by omega), itoa_is t (by omega) (by omega)]
    simp only [Option.bind_some, ByteArray.size_append, z2]
    rw [if_pos (by omega), ba_assoc]
theorem sg_le (n : Bool) : (sgB n).size ≤ 1 := by cases n <;> decide
theorem implChain (k : Nat) (hk : 1000 ≤ k) (T : ByteArray) (n : Bool) (d e t : Int) (h1 : 1 ≤ T.size) (h2 : T.size ≤ 20) (he : -300 ≤ e) (he2 : e ≤ 300) (ht : t = (T.size : Int) - 1 + e) :
    impl_DecText.j0 k T (sgB n) n d e = some (sgB n ++ decBody T e t) := by
  obtain ⟨k, rfl⟩ : ∃ m, k = m + 4 := ⟨k - 4, by omega⟩
  have z1 : (⟨#[45]⟩ : ByteArray).size = 1 := rfl
  have z2 : (⟨#[46]⟩ : ByteArray).size = 1 := rfl
  have z3 : (⟨#[48, 46]⟩ : ByteArray).size = 2 := rfl
  have x1 := ex_le T 0 (t + 1).toNat
  have x2 := ex_le T (t + 1).toNat T.size
  have x3 := ex_le T 0 1
  have x4 := ex_le T 1 T.size
  have hs := sg_le n
  have w1 : wrap64 ((T.size : Int) + e) = t + 1 := by rw [wrap_id (by omega) (by omega)]; omega
  have w2 : wrap64 (t + 1 - 1) = t := by rw [wrap_id (by omega) (by omega)]; omega
  have w3 : wrap64 (wrap64 ((T.size : Int) - 1) + e) = t := by rw [wrap_id (x := (T.size : Int) - 1) (by omega) (by omega), wrap_id (by omega) (by omega)]; omega
  have w4 : wrap64 (-(t + 1)) = -t - 1 := by rw [wrap_id (by omega) (by omega)]; omega
  have fin : (if 0 ≤ 1 then if 1 ≤ (T.size : Int) then if (sgB n).size + (T.extract 0 1).size ≤ 9223372036854775807 then if (T.size : Int) > 1 then if 1 + (T.extract 1 T.size).size ≤ 9223372036854775807 then if (sgB n ++ T.extract 0 1).size + ((⟨#[46]⟩ : ByteArray) ++ T.extract 1 T.size).size ≤ 9223372036854775807 then impl_DecText.j3 (k + 1) t ((sgB n ++ T.extract 0 1) ++ ((⟨#[46]⟩ : ByteArray) ++ T.extract 1 T.size)) else none else none else impl_DecText.j3 (k + 1) t (sgB n ++ T.extract 0 1) else none else none else none) = some (sgB n ++ (mant T ++ expo t)) := by
    rw [if_pos (by omega), if_pos (by omega), if_pos (by omega)]
    unfold mant
    by_cases c : (T.size : Int) > 1
    · rw [if_pos c, if_pos c]
      simp only [ByteArray.size_append, z2]
      rw [if_pos (by omega), if_pos (by omega), implJ3 k t _ (by omega) (by omega) (by simp only [ByteArray.size_append, z2]; omega)]
      simp only [ba_assoc]
    · rw [if_neg c, if_neg c, implJ3 k t _ (by omega) (by omega) (by rw [ByteArray.size_append]; omega)]
      simp only [ba_assoc]
  unfold decBody
  simp only [impl_DecText.j0, w1]
  by_cases a : 0 ≤ e
  · rw [if_pos a]
    by_cases b : t < 15
    · clear w1 w2 w3 w4 fin
      rw [decide_eq_true (by omega : t + 1 ≤ 15), if_pos ⟨a, b⟩]
      simp only [impl_DecText.j1, if_true]
      obtain ⟨q, rfl⟩ : ∃ q : Nat, e = q := ⟨e.toNat, by omega⟩
      rw [if_pos (by omega), repeat_is q (by omega)]
      simp only [Option.bind_some, ByteArray.size_append, zeros_size, Int.toNat_natCast]
      rw [if_pos (by omega), ba_assoc]
    · rw [decide_eq_false (by omega : ¬ t + 1 ≤ 15), if_neg (by omega), if_neg (by omega), if_neg (by omega)]
      simp only [impl_DecText.j1, Bool.false_eq_true, if_false]
      rw [if_neg (by omega)]
      simp only [impl_DecText.j2, Bool.false_eq_true, if_false, w3]
      exact fin
  · rw [if_neg a, if_neg (by omega)]
    simp only [impl_DecText.j1, Bool.false_eq_true, if_false, w1, w2]
    rw [if_pos (by omega)]
    by_cases b : 0 ≤ t
    · rw [decide_eq_true (by omega : t ≥ -5), if_pos ⟨by omega, b⟩]
      simp only [impl_DecText.j2, if_true, w1]
      rw [if_pos (by omega), if_pos (by omega), if_pos (by omega)]
      simp only [ByteArray.size_append, z2]
      rw [if_pos (by omega), if_pos (by omega), if_pos (by omega)]
      simp only [ba_assoc]
    · rw [if_neg (by omega)]
      by_cases c : -5 ≤ t
      · rw [decide_eq_true c, if_pos ⟨by omega, c⟩]
        simp only [impl_DecText.j2, if_true, w1]
        rw [if_neg (by omega), if_pos (by omega), w4]
        obtain ⟨q, hq⟩ : ∃ q : Nat, -t - 1 = q := ⟨(-t - 1).toNat, by omega⟩
        rw [hq, repeat_is q (by omega)]
        simp only [Option.bind_some, ByteArray.size_append, zeros_size, Int.toNat_natCast, z3]
        rw [if_pos (by omega), if_pos (by omega)]
        simp only [ba_assoc]
      · rw [decide_eq_false (by omega : ¬ t ≥ -5), if_neg (by omega)]
        simp only [impl_DecText.j2, Bool.false_eq_true, if_false, w3]
        exact fin
/-- A decimal's text. -/
def decTxt (n : Bool) (d e : Int) : ByteArray := if goodDecB n d e then sgB n ++ decBody (txt d) e (((txt d).size : Int) - 1 + e) else ⟨#[]⟩
theorem good_bounds {n : Bool} {d e : Int} (h : goodDecB n d e = true) : 0 ≤ d ∧ d ≤ 999999999999999 ∧ -300 ≤ e ∧ e ≤ 300 ∧ (d = 0 → n = false ∧ e = 0) := by
  unfold goodDecB at h
  rcases of_decide_eq_true h with ⟨a, b, c⟩ | ⟨a, b, c, d', e'⟩
  · exact ⟨by omega, by omega, by omega, by omega, fun _ => ⟨a, c⟩⟩
  · exact ⟨by omega, by omega, by omega, by omega, fun h => by omega⟩
theorem txt0 : txt 0 = (⟨#[48]⟩ : ByteArray) := by
  have e0 : Lib.itoa 0 = [48] := by simp [Lib.itoa, Lib.decDigits]
  unfold txt; rw [e0]
theorem specDecText_is (n : Bool) (d e : Int) (k : Nat) (hk : 2000 ≤ k) : spec_DecText.f k n d e = some (decTxt n d e) := by
  unfold spec_DecText.f decTxt
  rw [specGoodDec_is]
  simp only [Option.bind_some]
  by_cases h : goodDecB n d e = true
  · have hb := good_bounds h
    rw [if_pos h, if_pos h]
    by_cases h0 : d = 0
    · obtain ⟨rfl, rfl⟩ := hb.2.2.2.2 h0
      subst h0
      rw [if_pos rfl, txt0, sg_app]
      congr 1
    · have l1 := txt_le d (by omega) (by omega)
      have l2 := txt_pos d (by omega) (by omega)
      have l3 : (txt d).size ≤ 20 := by
        obtain ⟨u, rfl⟩ : ∃ u : Nat, d = u := ⟨d.toNat, by omega⟩
        rw [txt_size]; have := nd15 u (by omega); omega
      rw [if_neg h0, l1Num_is d (by omega) (by omega)]
      simp only [Option.bind_some]
      have w3 : wrap64 (wrap64 (((txt d).size : Int) - 1) + e) = ((txt d).size : Int) - 1 + e := by rw [wrap_id (x := ((txt d).size : Int) - 1) (by omega) (by omega), wrap_id (by omega) (by omega)]
      rw [w3]
      exact specChain k (by omega) (txt d) n d e _ l2 l3 hb.2.2.1 hb.2.2.2.1 rfl
  · rw [if_neg h, if_neg h]
theorem implDecText_is (n : Bool) (d e : Int) (k : Nat) (hk : 2000 ≤ k) : impl_DecText.f k n d e = some (decTxt n d e) := by
  unfold impl_DecText.f decTxt
  rw [implGoodDec_is]
  simp only [Option.bind_some]
  by_cases h : goodDecB n d e = true
  · have hb := good_bounds h
    rw [if_pos h, if_pos h]
    have l2 := txt_pos d (by omega) (by omega)
    have l3 : (txt d).size ≤ 20 := by
      obtain ⟨u, rfl⟩ : ∃ u : Nat, d = u := ⟨d.toNat, by omega⟩
      rw [txt_size]; have := nd15 u (by omega); omega
    rw [itoa_is d (by omega) (by omega)]
    simp only [Option.bind_some]
    have := implChain k (by omega) (txt d) n d e _ l2 l3 hb.2.2.1 hb.2.2.2.1 rfl
    cases n
    · rw [if_neg (by decide)]; exact this
    · rw [if_pos rfl]; exact this
  · rw [if_neg h, if_neg h]

abbrev ValT := Int × Bool × Int × Int × ByteArray
/-- A value as a text value, where it is a good one. -/
def asTextV (k : Int) (n : Bool) (d x : Int) (t : ByteArray) : ValT :=
  if k = 0 then (2, false, 0, 0, (⟨#[]⟩ : ByteArray)) else if k = 1 then (2, false, 0, 0, decTxt n d x) else if k = 3 then (2, false, 0, 0, t) else (k, n, d, x, t)
theorem specAsText_is (k : Int) (n : Bool) (d x : Int) (t : ByteArray) (K : Nat) (hK : 2000 ≤ K) : spec_l6AsText.f K k n d x t = some (asTextV k n d x t) := by
  unfold spec_l6AsText.f asTextV
  rw [specDecText_is n d x K hK]
  by_cases h0 : k = 0
  · rw [if_pos h0, if_pos h0]; rfl
  rw [if_neg h0, if_neg h0]
  by_cases h1 : k = 1
  · rw [if_pos h1, if_pos h1]; rfl
  rw [if_neg h1, if_neg h1]
  by_cases h3 : k = 3
  · rw [if_pos h3, if_pos h3]; rfl
  rw [if_neg h3, if_neg h3]
theorem implTextOf_is (k : Int) (n : Bool) (d x : Int) (t : ByteArray) (ht : t.size ≤ 1048576) (K : Nat) (hK : 2000 ≤ K) : impl_TextOf.f K k n d x t = some (if goodValB k n d x t = true then asTextV k n d x t else (4, false, 0, 0, (⟨#[35, 86, 65, 76, 85, 69, 33]⟩ : ByteArray))) := by
  have hg : impl_GoodValue.f k n d x t = some (goodValB k n d x t) := by unfold impl_GoodValue.f; rw [if_pos ht]
  unfold impl_TextOf.f asTextV
  rw [hg, implDecText_is n d x K hK]
  simp only [Option.bind_some]
  by_cases h : goodValB k n d x t = true
  · rw [if_pos h, if_pos h]
    by_cases h1 : k = 1
    · rw [if_pos h1, if_neg (by omega), if_pos h1]; rfl
    rw [if_neg h1]
    by_cases h3 : k = 3
    · rw [if_pos h3, if_neg (by omega), if_neg h1, if_pos h3]; rfl
    rw [if_neg h3]
    by_cases h0 : k = 0
    · rw [if_pos h0, if_pos h0]; rfl
    rw [if_neg h0, if_neg h0, if_neg h1, if_neg h3]
  · rw [if_neg h, if_neg h]; rfl
/-- What a value is shown as. -/
def showV (k : Int) (n : Bool) (d x : Int) (t : ByteArray) : ByteArray := if goodValB k n d x t = true then (asTextV k n d x t).2.2.2.2 else ⟨#[]⟩
theorem implShow_is (k : Int) (n : Bool) (d x : Int) (t : ByteArray) (ht : t.size ≤ 1048576) (K : Nat) (hK : 2000 ≤ K) : impl_ShowValue.f K k n d x t = some (showV k n d x t) := by
  have hg : impl_GoodValue.f k n d x t = some (goodValB k n d x t) := by unfold impl_GoodValue.f; rw [if_pos ht]
  unfold impl_ShowValue.f showV
  rw [hg, implTextOf_is k n d x t ht K hK]
  simp only [Option.bind_some]
  by_cases h : goodValB k n d x t = true
  · rw [if_pos h, if_pos h, if_pos h]
  · rw [if_neg h, if_neg h]
theorem specShow_is (k : Int) (n : Bool) (d x : Int) (t : ByteArray) (ht : t.size ≤ 1048576) (K : Nat) (hK : 1048590 ≤ K) : spec_ShowValue.f K k n d x t = some (showV k n d x t) := by
  unfold spec_ShowValue.f showV
  rw [specGoodValue_is k n d x t ht K hK, specAsText_is k n d x t K (by omega)]
  simp only [Option.bind_some]
  by_cases h : goodValB k n d x t = true
  · rw [if_pos h, if_pos h]
  · rw [if_neg h, if_neg h]

/-! A cell's field: what the program lays into bytes, the reference puts together. -/
theorem ascii_app (a b : ByteArray) (h1 : asciiB a = true) (h2 : asciiB b = true) : asciiB (a ++ b) = true := by
  unfold asciiB at *
  rw [ByteArray.data_append, Array.toList_append, List.all_append, h1, h2]; rfl
theorem ascii_ext (a : ByteArray) (i j : Nat) (h : asciiB a = true) : asciiB (a.extract i j) = true := by
  unfold asciiB at *
  rw [ByteArray.data_extract, Array.toList_extract, List.extract]
  rw [List.all_eq_true] at *
  intro x hx
  exact h x (List.mem_of_mem_drop (List.mem_of_mem_take hx))
theorem ascii_zeros (q : Nat) : asciiB (zeros q) = true := by
  unfold asciiB zeros strOfNums
  rw [List.all_eq_true]
  intro x hx
  simp only [List.map_replicate] at hx
  obtain ⟨_, rfl⟩ := List.mem_replicate.1 hx
  decide
theorem ascii_dec (u : Nat) : ∀ b ∈ Lib.decDigits u, decide (b.toNat < 128) = true := by
  intro b hb
  rw [Lib.decDigits_eq] at hb
  obtain ⟨t, _, rfl⟩ := List.mem_map.1 hb
  simp only [Lib.dg, UInt8.toNat_ofNat']
  exact decide_eq_true (by omega)
theorem ascii_txt (n : Int) : asciiB (txt n) = true := by
  unfold asciiB txt Lib.itoa
  rw [List.all_eq_true]
  intro b hb
  have hb2 : b ∈ (if n < 0 then 45 :: Lib.decDigits n.natAbs else Lib.decDigits n.toNat) := hb
  split at hb2
  · rcases List.mem_cons.1 hb2 with rfl | h
    · decide
    · exact ascii_dec _ _ h
  · exact ascii_dec _ _ hb2
theorem ascii_dectxt (n : Bool) (d e : Int) : asciiB (decTxt n d e) = true := by
  have ht := ascii_txt d
  unfold decTxt
  split
  · refine ascii_app _ _ (by cases n <;> decide) ?_
    unfold decBody
    split
    · exact ascii_app _ _ ht (ascii_zeros _)
    · split
      · exact ascii_app _ _ (ascii_app _ _ (ascii_ext _ _ _ ht) (by decide)) (ascii_ext _ _ _ ht)
      · split
        · exact ascii_app _ _ (ascii_app _ _ (by decide) (ascii_zeros _)) ht
        · refine ascii_app _ _ ?_ ?_
          · unfold mant
            split
            · exact ascii_app _ _ (ascii_ext _ _ _ ht) (ascii_app _ _ (by decide) (ascii_ext _ _ _ ht))
            · exact ascii_ext _ _ _ ht
          · unfold expo
            split
            · exact ascii_app _ _ (by decide) (ascii_txt _)
            · exact ascii_app _ _ (by decide) (ascii_txt _)
  · decide
theorem dectxt_le (n : Bool) (d e : Int) : (decTxt n d e).size ≤ 2000 := by
  unfold decTxt
  split
  case isTrue h =>
    obtain ⟨b1, b2, b3, b4, _⟩ := good_bounds h
    have ht := txt_le d (by omega) (by omega)
    have z1 : (⟨#[46]⟩ : ByteArray).size = 1 := rfl
    have z2 : (⟨#[48, 46]⟩ : ByteArray).size = 2 := rfl
    have z3 : (⟨#[69, 45]⟩ : ByteArray).size = 2 := rfl
    have z4 : (⟨#[69, 43]⟩ : ByteArray).size = 2 := rfl
    have hs := sg_le n
    have x1 := ex_le (txt d) 0 1
    have x2 := ex_le (txt d) 1 (txt d).size
    rw [ByteArray.size_append]
    unfold decBody
    generalize hT : ((txt d).size : Int) - 1 + e = t
    have hx3 := ex_le (txt d) 0 (t + 1).toNat
    have hx4 := ex_le (txt d) (t + 1).toNat (txt d).size
    split
    · rw [ByteArray.size_append, zeros_size]; omega
    · split
      · simp only [ByteArray.size_append, z1]; omega
      · split
        · simp only [ByteArray.size_append, z2, zeros_size]; omega
        · have hm : (mant (txt d)).size ≤ 100 := by
            unfold mant
            split
            · simp only [ByteArray.size_append, z1]; omega
            · omega
          have he : (expo t).size ≤ 100 := by
            have e1 := txt_le t (by omega) (by omega)
            have e2 := txt_le (-t) (by omega) (by omega)
            unfold expo
            split
            · simp only [ByteArray.size_append, z3]; omega
            · simp only [ByteArray.size_append, z4]; omega
          rw [ByteArray.size_append]; omega
  case isFalse => decide
theorem ascii_of (t : ByteArray) (l : List UInt8) (h : (t.toList == l) = true) (ha : l.all (fun b => decide (b.toNat < 128)) = true) : asciiB t = true := by
  have h1 : t.toList = l := by simpa using h
  rw [ByteArray.toList_eq] at h1
  unfold asciiB; rw [h1]; exact ha
theorem size_of_list (t : ByteArray) (l : List UInt8) (h : (t.toList == l) = true) : t.size = l.length := by
  have h1 : t.toList = l := by simpa using h
  rw [ByteArray.toList_eq] at h1
  rw [Lib.size_eq, h1]
theorem show_facts (k : Int) (n : Bool) (d x : Int) (t : ByteArray) (h : goodValB k n d x t = true) : (showV k n d x t).size ≤ 2000 ∧ asciiB (showV k n d x t) = true := by
  unfold showV
  rw [if_pos h]
  unfold asTextV
  unfold goodValB at h
  by_cases h0 : k = 0
  · rw [if_pos h0]; exact ⟨by decide, by decide⟩
  rw [if_neg h0] at h ⊢
  by_cases h1 : k = 1
  · rw [if_pos h1]; exact ⟨dectxt_le n d x, ascii_dectxt n d x⟩
  rw [if_neg h1] at h ⊢
  by_cases h3 : k = 3
  · rw [if_neg (by omega : ¬ k = 2), if_pos h3] at h
    rw [if_pos h3]
    simp only [Bool.and_eq_true, Bool.or_eq_true] at h
    rcases h.2 with h | h
    · exact ⟨by have := size_of_list t _ h; simp at this; show t.size ≤ 2000; omega, ascii_of t _ h (by decide)⟩
    · exact ⟨by have := size_of_list t _ h; simp at this; show t.size ≤ 2000; omega, ascii_of t _ h (by decide)⟩
  rw [if_neg h3]
  by_cases h2 : k = 2
  · rw [if_pos h2] at h
    simp only [Bool.and_eq_true, decide_eq_true_eq] at h
    refine ⟨by show t.size ≤ 2000; omega, ?_⟩
    show asciiB t = true
    unfold asciiB
    rw [List.all_eq_true]
    intro b hb
    have hp := h.2.1
    unfold printB bytesOf at hp
    have := of_decide_eq_true (List.all_eq_true.1 hp (b.toNat : Int) (List.mem_map.2 ⟨b, hb, rfl⟩))
    exact decide_eq_true (by omega)
  rw [if_neg h2, if_neg h3] at h
  by_cases h4 : k = 4
  · rw [if_pos h4] at h
    simp only [Bool.and_eq_true] at h
    have h5 := h.2
    unfold errFrom at h5
    rw [List.drop_zero, List.any_eq_true] at h5
    obtain ⟨e, he, h6⟩ := h5
    have h7 : e.toList = t.toList := by simpa using h6
    have h8 : ∀ e ∈ errL, e.toList.all (fun b => decide (b.toNat < 128)) = true ∧ e.toList.length ≤ 100 := by
      intro e he
      simp only [errL, List.mem_cons, List.not_mem_nil, or_false] at he
      rcases he with rfl | rfl | rfl | rfl | rfl | rfl | rfl | rfl | rfl <;> (rw [ByteArray.toList_eq]; exact ⟨by decide, by decide⟩)
    obtain ⟨h9, h10⟩ := h8 e he
    have h11 : (t.toList == e.toList) = true := by simp [h7]
    have h12 := size_of_list t _ h11
    exact ⟨by show t.size ≤ 2000; omega, ascii_of t _ h11 h9⟩
  · rw [if_neg h4] at h; cases h
theorem blanks_eq (n : Nat) : blanks n = strOfNums (List.replicate n 32) := by
  unfold blanks strOfNums
  rw [List.map_replicate]; rfl
theorem blanks_l0 (q : Nat) (hq : q ≤ 100000) : ∀ (d k i : Nat), i + d = q → d < k → spec_l17Blanks.l0 k (List.replicate i 32 ++ List.replicate d 0) (q : Int) (i : Int) = some (blanks q) := by
  intro d
  induction d with
  | zero =>
    intro k i h hk
    obtain ⟨k, rfl⟩ : ∃ m, k = m + 1 := ⟨k - 1, by omega⟩
    obtain rfl : i = q := by omega
    simp only [spec_l17Blanks.l0]
    rw [if_neg (by omega)]
    simp [blanks_eq]
  | succ d ih =>
    intro k i h hk
    obtain ⟨k, rfl⟩ : ∃ m, k = m + 1 := ⟨k - 1, by omega⟩
    simp only [spec_l17Blanks.l0]
    rw [if_pos (by omega), if_pos (by omega), if_pos (by simp; omega), wrap_id (by omega) (by omega)]
    have e : (List.replicate i (32 : Int) ++ List.replicate (d + 1) 0).set ((i : Int)).toNat 32 = List.replicate (i + 1) 32 ++ List.replicate d 0 := by
      rw [Int.toNat_natCast, List.set_append, if_neg (by simp)]
      simp only [List.length_replicate, Nat.sub_self, List.replicate_succ, List.set_cons_zero]
      rw [show (32 : Int) :: List.replicate i 32 = List.replicate i 32 ++ [32] from by rw [← List.replicate_succ, List.replicate_succ'], List.append_assoc]; rfl
    rw [e, show ((i : Int) + 1) = ((i + 1 : Nat) : Int) from by omega]
    exact ih k (i + 1) (by omega) (by omega)
theorem blanks_is (q : Nat) (hq : q ≤ 100000) (k : Nat) (hk : q < k) : spec_l17Blanks.f k (q : Int) = some (blanks q) := by
  unfold spec_l17Blanks.f
  rw [if_pos (by omega), Int.toNat_natCast, if_pos (by omega)]
  simp only [Option.bind_some]
  have := blanks_l0 q hq q k 0 (by omega) hk
  simpa using this
theorem sharps_size (n : Nat) : (sharps n).size = n := by unfold sharps; show (List.replicate n (35 : UInt8)).toArray.size = n; simp
theorem sharps_l0 (m : Nat) (hm : m ≤ 1000) : ∀ (d k i : Nat), i + d = m → d < k → spec_l10Rep.l0 k (⟨#[35]⟩ : ByteArray) (m : Int) (sharps i) (i : Int) = some (sharps m) := by
  intro d
  induction d with
  | zero =>
    intro k i h hk
    obtain ⟨k, rfl⟩ : ∃ m, k = m + 1 := ⟨k - 1, by omega⟩
    obtain rfl : i = m := by omega
    simp only [spec_l10Rep.l0]
    rw [if_neg (by omega)]
  | succ d ih =>
    intro k i h hk
    obtain ⟨k, rfl⟩ : ∃ m, k = m + 1 := ⟨k - 1, by omega⟩
    have z : (⟨#[35]⟩ : ByteArray).size = 1 := rfl
    have e : sharps i ++ (⟨#[35]⟩ : ByteArray) = sharps (i + 1) := by
      apply ByteArray.ext
      rw [ByteArray.data_append]
      apply Array.toList_inj.1
      unfold sharps
      simp [List.replicate_succ']
    simp only [spec_l10Rep.l0]
    rw [if_pos (by omega), if_pos (by rw [sharps_size, z]; omega), e, wrap_id (by omega) (by omega), show ((i : Int) + 1) = ((i + 1 : Nat) : Int) from by omega]
    exact ih k (i + 1) (by omega) (by omega)
theorem sharps_is (m : Nat) (hm : m ≤ 1000) (k : Nat) (hk : m < k) : spec_l10Rep.f k (⟨#[35]⟩ : ByteArray) (m : Int) = some (sharps m) := by
  unfold spec_l10Rep.f
  exact sharps_l0 m hm m k 0 (by omega) hk
theorem blanks_sz (n : Nat) : (blanks n).size = n := by unfold blanks; show (List.replicate n (32 : UInt8)).toArray.size = n; simp
theorem blanks0 : blanks 0 = ByteArray.empty := rfl
theorem specJ0 (K : Nat) (hK : 100 ≤ K) (m : Nat) (t : ByteArray) (k : Int) (n : Bool) (d x : Int) (s : ByteArray) (hm : m ≤ 40) (ht : t.size ≤ m) :
    spec_l17Field.j0 K (m : Int) t k n d x s = some (blanks (cfLeft k (m - t.size)) ++ t ++ blanks (m - cfLeft k (m - t.size) - t.size)) := by
  obtain ⟨q, rfl⟩ : ∃ q, K = q + 1 + 1 := ⟨K - 2, by omega⟩
  have hr : wrap64 ((m : Int) - (t.size : Int)) = ((m - t.size : Nat) : Int) := by rw [wrap_id (by omega) (by omega)]; omega
  have hh : wrap64 (Int.tdiv ((m - t.size : Nat) : Int) 2) = (((m - t.size) / 2 : Nat) : Int) := by
    rw [Int.tdiv_eq_ediv_of_nonneg (by omega), wrap_id (by omega) (by omega)]; omega
  have hh2 : wrap64 (((m - t.size : Nat) : Int) - (((m - t.size) / 2 : Nat) : Int)) = ((m - t.size - (m - t.size) / 2 : Nat) : Int) := by
    rw [wrap_id (by omega) (by omega)]; omega
  simp only [spec_l17Field.j0]
  rw [hr]
  unfold cfLeft
  by_cases h1 : k = 1
  · rw [if_pos h1, if_pos h1, blanks_is _ (by omega) _ (by omega)]
    simp only [Option.bind_some]
    rw [if_pos (by rw [blanks_sz]; omega), show m - (m - t.size) - t.size = 0 from by omega, blanks0, ByteArray.append_empty]
  rw [if_neg h1, if_neg h1]
  have hyes : spec_l17Field.j1 (q + 1) t ((m - t.size : Nat) : Int) true = some (blanks ((m - t.size) / 2) ++ t ++ blanks (m - (m - t.size) / 2 - t.size)) := by
    simp only [spec_l17Field.j1, if_true]
    rw [hh, blanks_is _ (by omega) _ (by omega)]
    simp only [Option.bind_some]
    rw [if_pos (by rw [blanks_sz]; omega), hh2, blanks_is _ (by omega) _ (by omega)]
    simp only [Option.bind_some]
    rw [if_pos (by rw [ByteArray.size_append, blanks_sz, blanks_sz]; omega), show m - (m - t.size) / 2 - t.size = m - t.size - (m - t.size) / 2 from by omega]
  by_cases h3 : k = 3
  · rw [if_pos h3, if_pos (.inl h3), show (k == 3) = true from by simp [h3]]; exact hyes
  rw [if_neg h3]
  by_cases h4 : k = 4
  · rw [if_pos (.inr h4), show (k == 4) = true from by simp [h4]]; exact hyes
  rw [if_neg (by omega), show (k == 4) = false from by simp [h4]]
  simp only [spec_l17Field.j1, Bool.false_eq_true, if_false]
  rw [blanks_is _ (by omega) _ (by omega)]
  simp only [Option.bind_some]
  rw [if_pos (by rw [blanks_sz]; omega), blanks0, ByteArray.empty_append, Nat.sub_zero]
theorem specField_is (k : Int) (n : Bool) (d x : Int) (s : ByteArray) (hs : s.size ≤ 1048576) (hg : goodValB k n d x s = true) (m : Nat) (h1 : 1 ≤ m) (h2 : m ≤ 40) (K : Nat) (hK : 1048700 ≤ K) :
    spec_l17Field.f K k n d x s (m : Int) = some (cellV k m (showV k n d x s)) := by
  have hf := show_facts k n d x s hg
  unfold spec_l17Field.f
  rw [specShow_is k n d x s hs K (by omega)]
  simp only [Option.bind_some]
  generalize showV k n d x s = t at *
  unfold cellV
  by_cases hb : m < t.size
  · rw [if_pos (by omega), if_pos hb]
    by_cases hk : k = 1
    · rw [if_pos hk, if_pos hk, sharps_is m (by omega) K (by omega)]; rfl
    · rw [if_neg hk, if_neg hk, if_pos (by omega), if_pos (by omega), Int.toNat_natCast]
      have hz : (t.extract 0 m).size = m := by rw [ByteArray.size_extract]; omega
      rw [specJ0 K (by omega) m (t.extract 0 m) k n d x s h2 (by omega), hz, Nat.sub_self]
      have hl : cfLeft k 0 = 0 := by unfold cfLeft; split <;> (try split) <;> rfl
      rw [hl, show m - 0 - m = 0 from by omega, blanks0, ByteArray.empty_append, ByteArray.append_empty]
  · rw [if_neg (by omega), if_neg hb, specJ0 K (by omega) m t k n d x s h2 (by omega)]
theorem FnExactCellField : ∀ (a0_0 : Int) (a0_1 : Bool) (a0_2 : Int) (a0_3 : Int) (a0_4 : ByteArray) (a1 : Int), (Lit.int .i64 a0_0).wf = true → (Lit.int .i64 a0_2).wf = true → (Lit.int .i64 a0_3).wf = true → a0_4.size ≤ maxLen → (Lit.int .i64 a1).wf = true → ∃ k, laws_FnExactCellField.f k a0_0 a0_1 a0_2 a0_3 a0_4 a1 = some true := by
  intro k n d x s a1 _ _ _ hmax _
  have hml : maxLen ≤ 9223372036854775807 := by decide
  refine ⟨1048701, ?_⟩
  unfold laws_FnExactCellField.f laws_szValue.f
  rw [wrap_id (x := 1048576 - (s.size : Int)) (by omega) (by omega)]
  by_cases ht : s.size ≤ 1048576
  · rw [if_neg (by omega)]
    simp only [Option.bind_some]
    rw [if_neg (by omega)]
    have htv : laws_toValue.f k n d x s = some (k, n, d, x, s) := rfl
    rw [htv]
    simp only [Option.bind_some]
    have hv : ∃ o, spec_CellField.f 1048701 k n d x s a1 = some o ∧ impl_CellField.f k n d x s a1 = some o := by
      have hg : impl_GoodValue.f k n d x s = some (goodValB k n d x s) := by unfold impl_GoodValue.f; rw [if_pos ht]
      unfold spec_CellField.f impl_CellField.f
      rw [specGoodValue_is k n d x s ht 1048701 (by omega), hg]
      simp only [Option.bind_some]
      cases hgv : goodValB k n d x s
      · exact ⟨⟨#[]⟩, by rw [if_neg (by decide)], by rw [if_neg (by simp)]⟩
      · rw [if_pos rfl]
        by_cases h1 : a1 < 1
        · exact ⟨⟨#[]⟩, by rw [if_pos h1], by rw [if_neg (by omega)]⟩
        · by_cases h2 : a1 > 40
          · exact ⟨⟨#[]⟩, by rw [if_neg h1, if_pos h2], by rw [if_neg (by omega)]⟩
          · obtain ⟨m, rfl⟩ : ∃ m : Nat, a1 = m := ⟨a1.toNat, by omega⟩
            refine ⟨cellV k m (showV k n d x s), ?_, ?_⟩
            · rw [if_neg h1, if_neg h2, specField_is k n d x s ht hgv m (by omega) (by omega) 1048701 (by omega)]; rfl
            · rw [if_pos ⟨rfl, by omega, by omega⟩, implShow_is k n d x s ht 3000000 (by omega)]
              simp only [Option.bind_some]
              rw [if_pos (show_facts k n d x s hgv), Int.toNat_natCast]
    obtain ⟨o, h1, h2⟩ := hv
    rw [h1, h2]
    simp only [Option.bind_some, if_true]
  · rw [if_pos (by omega)]; rfl

end Go.Proofs.YtghglglbajnncaaDoor.Pure
