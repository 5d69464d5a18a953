/- Walks of impl.isError and impl.GoodValue over the table of the error texts that the program lays; the reference's GoodValue in plain terms. Condition: the table's cells hold the texts. -/
import Derived.Test.YtmpimcfmhpfkaaaDoorPFnExactGoodValuex0
import Derived.Test.YtmpimcfmhpfkaaaDoorPFnExactGoodValuex1
import Derived.Test.YtmpimcfmhpfkaaaDoorPFnExactGoodValuex2
import Derived.Test.YtmpimcfmhpfkaaaDoorPFnExactGoodValuex3
import Derived.Lib.Hide
namespace Go.Proofs.YtmpimcfmhpfkaaaDoor.PFnExactGoodValue
open Go.RowKit Go.Proofs.YtmpimcfmhpfkaaaDoorW.PrintWords Go.Proofs.YtmpimcfmhpfkaaaDoorW.PrintLast Go.Proofs.YtmpimcfmhpfkaaaDoorW.PrintMore
set_option linter.unusedVariables false
set_option linter.unusedSimpArgs false
/-! plain facts on whole numbers -/
theorem wrap_id {x : Int} (h1 : -9223372036854775808 ≤ x) (h2 : x ≤ 9223372036854775807) : wrap64 x = x := by
  unfold wrap64; omega
theorem td_pos {a b : Int} (h : 0 ≤ a) : a.tdiv b = a / b := Int.tdiv_eq_ediv_of_nonneg h
theorem td_neg {a b : Int} (h : a ≤ 0) : a.tdiv b = -((-a) / b) := by
  rw [← Int.tdiv_eq_ediv_of_nonneg (by omega : 0 ≤ -a), Int.neg_tdiv]; omega
theorem tm_pos {a b : Int} (h : 0 ≤ a) : a.tmod b = a % b := Int.tmod_eq_emod_of_nonneg h
theorem tm_neg {a b : Int} (h : a ≤ 0) : a.tmod b = -((-a) % b) := by
  rw [← Int.tmod_eq_emod_of_nonneg (by omega : 0 ≤ -a), Int.neg_tmod]; omega
theorem tm_zero (a b : Int) : a.tmod b = 0 ↔ a % b = 0 := by
  rw [← Int.dvd_iff_tmod_eq_zero, ← Int.dvd_iff_emod_eq_zero]
theorem ediv_is {a b q r : Int} (hb : 0 < b) (h : a = b * q + r) (h0 : 0 ≤ r) (h1 : r < b) : a / b = q := by
  rw [h, Int.add_comm, Int.add_mul_ediv_left _ _ (by omega), Int.ediv_eq_zero_of_lt h0 h1]; omega
theorem ediv_neg_of {a b : Int} (hb : 0 < b) (h : a.tmod b = 0) : a.tdiv b = a / b := by
  have e := Int.mul_tdiv_add_tmod a b
  rw [h] at e
  exact (ediv_is hb (q := a.tdiv b) (r := 0) (by omega) (by omega) hb).symm
theorem ediv_floor {a b : Int} (hb : 0 < b) (ha : a < 0) (h : a.tmod b ≠ 0) : a.tdiv b - 1 = a / b := by
  have e := Int.mul_tdiv_add_tmod a b
  have hm := tm_neg (a := a) (b := b) (by omega)
  have h0 := Int.emod_nonneg (-a) (by omega : b ≠ 0)
  have h1 := Int.emod_lt_of_pos (-a) hb
  refine (ediv_is hb (q := a.tdiv b - 1) (r := a.tmod b + b) ?_ (by omega) (by omega)).symm
  rw [Int.mul_sub]; omega
/-- The floor, as both programs reckon it. -/
theorem floor_is {a b : Int} (hb : 0 < b) (h1 : -4611686018427387904 ≤ a) (h2 : a ≤ 4611686018427387904) :
    (if b = 0 then (none) else (if (Int.tmod a b) = 0 then (some (wrap64 (Int.tdiv a b))) else (if ((decide (a < 0)) != (decide (b < 0))) = true then (some (wrap64 ((wrap64 (Int.tdiv a b)) - 1))) else (some (wrap64 (Int.tdiv a b)))))) = some (a / b) := by
  have hle : a / b ≤ 4611686018427387904 := by
    by_cases h : 0 ≤ a
    · exact Int.le_trans (Int.ediv_le_self b h) h2
    · have := Int.ediv_neg_of_neg_of_pos (by omega : a < 0) hb; omega
  have hge : -4611686018427387904 ≤ a / b := by
    by_cases h : 0 ≤ a
    · have := Int.ediv_nonneg h (by omega : 0 ≤ b); omega
    · exact Int.le_ediv_of_mul_le hb (by have : -4611686018427387904 * b ≤ -4611686018427387904 * 1 := by omega
                                         omega)
  rw [if_neg (by omega : ¬ b = 0)]
  by_cases hm : Int.tmod a b = 0
  · rw [if_pos hm, ediv_neg_of hb hm, wrap_id (by omega) (by omega)]
  · rw [if_neg hm]
    by_cases ha : a < 0
    · have e := ediv_floor hb ha hm
      rw [if_pos (by simp [ha]; omega), wrap_id (x := Int.tdiv a b) (by omega) (by omega), e, wrap_id (by omega) (by omega)]
    · rw [if_neg (by simp [ha]; omega), td_pos (by omega), wrap_id (by omega) (by omega)]

/-- Every byte of a text is printable. -/
def printB (s : ByteArray) : Bool := (bytesOf s).all fun c => decide (32 ≤ c ∧ c ≤ 126)
theorem bt_get (s : ByteArray) (i : Nat) (h : i < s.size) : (bytesOf s)[i]? = some (bt s i) := by
  rw [← rd_bytesOf]
  unfold rd
  rw [List.getD_eq_getElem?_getD, Int.toNat_natCast]
  rw [List.getElem?_eq_getElem (by rw [bytesOf_length]; exact h)]; rfl
/-- A loop that asks each byte of a text, and what it comes to. -/
theorem loop_bytes {F : Nat → Int → Option Bool} (s : ByteArray) (hs : s.size ≤ 9223372036854775806) (p : Int → Bool) (b : Bool)
    (hstep : ∀ (k : Nat) (i : Int), 0 ≤ i → i < s.size → F (k + 1) i = if p (bt s i) then F k (i + 1) else some false)
    (hend : ∀ k, F (k + 1) (s.size : Int) = some b) : ∀ (d k : Nat) (i : Nat), i + d = s.size → d < k → F k (i : Int) = some (((bytesOf s).drop i).all p && b) := by
  intro d
  induction d with
  | zero =>
    intro k i hi hk
    obtain ⟨k, rfl⟩ : ∃ m, k = m + 1 := ⟨k - 1, by omega⟩
    obtain rfl : i = s.size := by omega
    rw [hend, List.drop_of_length_le (by rw [bytesOf_length]; exact Nat.le_refl _)]; rfl
  | succ d ih =>
    intro k i hi hk
    obtain ⟨k, rfl⟩ : ∃ m, k = m + 1 := ⟨k - 1, by omega⟩
    have hlt : i < (bytesOf s).length := by rw [bytesOf_length]; omega
    rw [hstep k i (by omega) (by omega), List.drop_eq_getElem_cons hlt, List.all_cons]
    have e : (bytesOf s)[i] = bt s i := by
      have := bt_get s i (by omega)
      rw [List.getElem?_eq_getElem hlt] at this
      exact Option.some.inj this
    rw [e]
    cases hp : p (bt s i)
    · simp
    · rw [if_pos rfl, show ((i : Int) + 1) = ((i + 1 : Nat) : Int) from by omega, ih k (i + 1) (by omega) (by omega)]; simp

theorem specPrinted_is (s : ByteArray) (hs : s.size ≤ 1048576) (m : Int) (k : Nat) (hk : s.size < k) : spec_l4Printed.f k s m = some (printB s && decide ((s.size : Int) ≤ m)) := by
  unfold spec_l4Printed.f printB
  have h := loop_bytes (F := fun k i => spec_l4Printed.l0 k s m i) s (by omega) (fun c => decide (32 ≤ c ∧ c ≤ 126)) (decide ((s.size : Int) ≤ m)) ?_ ?_ s.size k 0 (by omega) hk
  · simpa using h
  · intro k i h0 h1
    simp only [spec_l4Printed.l0]
    rw [if_pos h1, if_pos h0, wrap_id (x := i + 1) (by omega) (by omega)]
    by_cases c1 : bt s i < 32
    · rw [if_pos c1, if_neg (by simp; omega)]
    · by_cases c2 : bt s i > 126
      · rw [if_neg c1, if_pos c2, if_neg (by simp; omega)]
      · rw [if_neg c1, if_neg c2, if_pos (by simp; omega)]
  · intro k
    simp only [spec_l4Printed.l0]
    rw [if_neg (by omega)]
theorem implPlain_is (s : ByteArray) (hs : s.size ≤ 1048576) (m : Int) (k : Nat) (hk : s.size < k) : impl_plainText.f k s m = some (printB s && decide ((s.size : Int) ≤ m)) := by
  unfold impl_plainText.f printB
  by_cases hm : (s.size : Int) > m
  · rw [if_pos hm, decide_eq_false (by omega : ¬ (s.size : Int) ≤ m)]; simp
  · rw [if_neg hm, decide_eq_true (by omega : (s.size : Int) ≤ m)]
    have h := loop_bytes (F := fun k i => impl_plainText.l0 k s i) s (by omega) (fun c => decide (32 ≤ c ∧ c ≤ 126)) true ?_ ?_ s.size k 0 (by omega) hk
    · simpa using h
    · intro k i h0 h1
      simp only [impl_plainText.l0]
      rw [if_pos h1, if_pos h0, wrap_id (x := i + 1) (by omega) (by omega)]
      by_cases c1 : bt s i < 32
      · rw [if_pos c1, if_neg (by simp; omega)]
      · by_cases c2 : bt s i > 126
        · rw [if_neg c1, if_pos c2, if_neg (by simp; omega)]
        · rw [if_neg c1, if_neg c2, if_pos (by simp; omega)]
    · intro k
      simp only [impl_plainText.l0]
      rw [if_neg (by omega)]

def goodDecB (n : Bool) (d e : Int) : Bool := decide ((n = false ∧ d = 0 ∧ e = 0) ∨ (1 ≤ d ∧ d ≤ 999999999999999 ∧ ¬ Int.tmod d 10 = 0 ∧ -300 ≤ e ∧ e ≤ 300))
theorem specGoodDec_is (n : Bool) (d e : Int) : spec_GoodDec.f n d e = some (goodDecB n d e) := by
  unfold spec_GoodDec.f goodDecB
  by_cases h0 : d = 0
  · subst h0; rw [if_pos rfl]
    cases n <;> by_cases he : e = 0 <;> simp [he]
  · rw [if_neg h0]
    by_cases h1 : d > 0
    · by_cases h2 : d < 1000000000000000
      · have h2' : d ≤ 999999999999999 := by omega
        have h1' : 1 ≤ d := by omega
        by_cases h3 : Int.tmod d 10 = 0
        · simp [h0, h1, h2, h3]
        · by_cases h4 : e ≥ -300 <;> by_cases h5 : e ≤ 300 <;> simp [h0, h1, h2, h3, h4, h5, h1', h2']
      · have h2' : ¬ d ≤ 999999999999999 := by omega
        simp [h0, h1, h2, h2']
    · have h1' : ¬ 1 ≤ d := by omega
      simp [h0, h1, h1']
theorem implGoodDec_is (n : Bool) (d e : Int) : impl_isGoodDec.f n d e = some (goodDecB n d e) := by
  unfold impl_isGoodDec.f goodDecB
  by_cases h0 : d = 0
  · subst h0
    cases n <;> by_cases he : e = 0 <;> simp [he]
  · by_cases h1 : 1 ≤ d <;> by_cases h2 : d ≤ 999999999999999 <;> by_cases h3 : Int.tmod d 10 = 0 <;> by_cases h4 : e ≥ -300 <;> by_cases h5 : e ≤ 300 <;> simp [h0, h1, h2, h3, h4, h5]

theorem bcell {W w1 : World} (hb : Below W.heap.size W w1) : (∀ b o, b < W.heap.size → w1.cell? ⟨b, o, none⟩ = W.cell? ⟨b, o, none⟩) ∧ (∀ b o, b < W.heap.size → w1.frozen? ⟨b, o, none⟩ = W.frozen? ⟨b, o, none⟩) :=
  ⟨fun b o h => hb.cell (p := ⟨b, o, none⟩) h, fun b o h => hb.frozen (p := ⟨b, o, none⟩) h⟩
/-- The error texts. -/
def errL : List ByteArray := [⟨#[35, 78, 85, 76, 76, 33]⟩, ⟨#[35, 68, 73, 86, 47, 48, 33]⟩, ⟨#[35, 86, 65, 76, 85, 69, 33]⟩, ⟨#[35, 82, 69, 70, 33]⟩, ⟨#[35, 78, 65, 77, 69, 63]⟩, ⟨#[35, 78, 85, 77, 33]⟩, ⟨#[35, 78, 47, 65]⟩, ⟨#[35, 83, 80, 73, 76, 76, 33]⟩, ⟨#[35, 67, 89, 67, 76, 69, 33]⟩]
def errT (i : Nat) : ByteArray := rdOf ByteArray.empty errL i
def Tab (w : World) : Prop := ∀ i : Nat, i < 9 → w.cell? ⟨0, i, none⟩ = some (.string (errT i))
theorem Tab.below {w w' : World} (h : Tab w) (hb : Below w.heap.size w w') : Tab w' := fun m h1 => pw_cell_below hb (h m h1)
/-- From the i-th error text on, is one the text? -/
def errFrom (s : ByteArray) (i : Nat) : Bool := (errL.drop i).any fun e => e.toList == s.toList
theorem errFrom_step (s : ByteArray) (i : Nat) (h : i < 9) : errFrom s i = ((errT i).toList == s.toList || errFrom s (i + 1)) := by
  unfold errFrom
  rw [List.drop_eq_getElem_cons (show i < errL.length from h), List.any_cons]
  have : errT i = errL[i]'h := by
    unfold errT rdOf; rw [Int.toNat_natCast]
    rw [List.getD_eq_getElem?_getD, List.getElem?_eq_getElem (show i < errL.length from h)]; rfl
  rw [this]; rfl
theorem errFrom_end (s : ByteArray) : errFrom s 9 = false := rfl
theorem specIn_is (s : ByteArray) : ∀ (d k i : Nat), i + d = 9 → d < k → spec_l4In.l0 k s errL 9 (i : Int) = some (errFrom s i) := by
  intro d
  induction d with
  | zero =>
    intro k i h hk
    obtain ⟨k, rfl⟩ : ∃ m, k = m + 1 := ⟨k - 1, by omega⟩
    obtain rfl : i = 9 := by omega
    simp only [spec_l4In.l0]; rfl
  | succ d ih =>
    intro k i h hk
    obtain ⟨k, rfl⟩ : ∃ m, k = m + 1 := ⟨k - 1, by omega⟩
    have hl : (errL.length : Int) = 9 := rfl
    simp only [spec_l4In.l0]
    rw [if_pos (by omega), if_pos (by omega), if_pos (by omega), errFrom_step s i (by omega)]
    show (if (errT i).toList = s.toList then _ else _) = _
    by_cases he : (errT i).toList = s.toList
    · rw [if_pos he, he]; simp
    · rw [if_neg he, wrap_id (x := (i : Int) + 1) (by omega) (by omega), show ((i : Int) + 1) = ((i + 1 : Nat) : Int) from by omega, ih k (i + 1) (by omega) (by omega)]
      rw [show ((errT i).toList == s.toList) = false from by simpa using he]; rfl
def zeroDec (n : Bool) (d e : Int) : Bool := !n && (d == 0 && e == 0)
/-- What GoodValue says. -/
def goodValB (k : Int) (n : Bool) (d e : Int) (t : ByteArray) : Bool :=
  if k = 0 then zeroDec n d e && (t.toList == ([] : List UInt8))
  else if k = 1 then (t.toList == ([] : List UInt8)) && goodDecB n d e
  else if k = 2 then zeroDec n d e && (printB t && decide ((t.size : Int) ≤ 1000))
  else if k = 3 then zeroDec n d e && ((t.toList == ([84, 82, 85, 69] : List UInt8)) || (t.toList == ([70, 65, 76, 83, 69] : List UInt8)))
  else if k = 4 then zeroDec n d e && errFrom t 0
  else false
theorem specGoodValue_is (k : Int) (n : Bool) (d e : Int) (t : ByteArray) (ht : t.size ≤ 1048576) (K : Nat) (hK : 1048590 ≤ K) : spec_GoodValue.f K k n d e t = some (goodValB k n d e t) := by
  unfold spec_GoodValue.f goodValB
  rw [specGoodDec_is, specPrinted_is t ht 1000 K (by omega)]
  have hin : spec_l4In.f K errL t = some (errFrom t 0) := by unfold spec_l4In.f; exact specIn_is t 9 K 0 (by omega) (by omega)
  have her : spec_l4Errors.f = some errL := rfl
  rw [her]
  simp only [Option.bind_some]
  rw [hin]
  simp only [Option.bind_some]
  by_cases h0 : k = 0
  · subst h0; simp [zeroDec]
  rw [if_neg h0, if_neg h0]
  by_cases h1 : k = 1
  · rw [if_pos h1, if_pos h1]
    by_cases hh : t.toList = ([] : List UInt8)
    · rw [if_pos hh, hh]; simp
    · rw [if_neg hh, show (t.toList == ([] : List UInt8)) = false from by simpa using hh]; rfl
  rw [if_neg h1, if_neg h1]
  have hz : (n || (!(d == 0) || (!(e == 0)))) = !zeroDec n d e := by unfold zeroDec; cases n <;> simp
  rw [hz]
  cases zeroDec n d e
  · simp
  · simp only [Bool.not_true, Bool.false_eq_true, if_false, Bool.true_and]
    by_cases h2 : k = 2
    · rw [if_pos h2, if_pos h2]
    rw [if_neg h2, if_neg h2]
    by_cases h3 : k = 3
    · rw [if_pos h3, if_pos h3]
      by_cases hh : t.toList = ([84, 82, 85, 69] : List UInt8)
      · rw [if_pos hh, hh]; simp
      · rw [if_neg hh, show (t.toList == ([84, 82, 85, 69] : List UInt8)) = false from by simpa using hh]; rfl
    rw [if_neg h3, if_neg h3]
    by_cases h4 : k = 4 <;> simp [h4]
def errCells : Array Value := #[.string (errT 0), .string (errT 1), .string (errT 2), .string (errT 3), .string (errT 4), .string (errT 5), .string (errT 6), .string (errT 7), .string (errT 8)]
theorem errIndex (j : Nat) (h : j < 9) (w : World) : (Instr.index 57 (.agg #[.string (errT 0), .string (errT 1), .string (errT 2), .string (errT 3), .string (errT 4), .string (errT 5), .string (errT 6), .string (errT 7), .string (errT 8)]) (.int .i64 (j : Int))).run Tryd.prog w = .ok (.string (errT j)) w := by
  rcases (by omega : j = 0 ∨ j = 1 ∨ j = 2 ∨ j = 3 ∨ j = 4 ∨ j = 5 ∨ j = 6 ∨ j = 7 ∨ j = 8) with rfl | rfl | rfl | rfl | rfl | rfl | rfl | rfl | rfl <;>
    simp [Instr.index, run_underlying Tryd.underlying57, asIntOf, go_sem]
set_option maxHeartbeats 4000000 in
theorem isError_calls (s : ByteArray) (w : World) (hT : Tab w) :
    Calls Tryd.prog 23 #[.string s] w fun e w' => e = .returned (.bool (errFrom s 0)) ∧ Drawn0 w w' := by
  have c0 := hT 0 (by omega)
  have c1 := hT 1 (by omega)
  have c2 := hT 2 (by omega)
  have c3 := hT 3 (by omega)
  have c4 := hT 4 (by omega)
  have c5 := hT 5 (by omega)
  have c6 := hT 6 (by omega)
  have c7 := hT 7 (by omega)
  have c8 := hT 8 (by omega)
  clear hT
  go_enter Tryd.func23, Tryd.ntmps23
  go_wp2_with fail
  go_loopw [6] (fun i w' => ∃ j : Nat, j ≤ 9 ∧ i = .int .i64 j ∧ errFrom s j = errFrom s 0 ∧ w' = w) (fun i _ => 9 - (intOf i).toNat)
  case atStart => exact ⟨0, by omega, rfl, rfl, rfl⟩
  case round =>
    obtain ⟨j, hj, rfl, he, rfl⟩ := hrel
    have HE := Lib.hid he; clear he
    by_cases hlt : j < 9
    · have ix := errIndex j hlt
      by_cases hs : (errT j).toList = s.toList
      · have e1 : errFrom s j = true := by rw [errFrom_step s j hlt, hs]; simp
        have E1 := Lib.hid e1; clear e1
        go_wp2_with fail
        go_ret
        rw [← HE.out, E1.out]; exact ⟨rfl, Drawn0.refl _⟩
      · have e1 : errFrom s j = errFrom s (j + 1) := by
          rw [errFrom_step s j hlt, show ((errT j).toList == s.toList) = false from by simpa using hs]; rfl
        have E1 := Lib.hid e1; clear e1
        have hb : ((errT j).toList == s.toList) = false := by simpa using hs
        go_wp2_with fail
        go_roundw
        case rel => exact ⟨j + 1, by omega, by go_num, by rw [← E1.out]; exact HE.out, by first | rfl | trivial⟩
        case measure => simp [intOf]; omega
    · go_wp2_with fail
      go_ret
      obtain rfl : j = 9 := by omega
      rw [← HE.out]; exact ⟨rfl, Drawn0.refl _⟩
theorem zcases (n : Bool) (d e : Int) : (n = false ∧ d = 0 ∧ e = 0) ∨ n = true ∨ (n = false ∧ (d == 0) = false) ∨ (n = false ∧ d = 0 ∧ (e == 0) = false) := by
  cases n
  · by_cases h : d = 0
    · by_cases h2 : e = 0
      · exact .inl ⟨rfl, h, h2⟩
      · exact .inr (.inr (.inr ⟨rfl, h, by simpa using h2⟩))
    · exact .inr (.inr (.inl ⟨rfl, by simpa using h⟩))
  · exact .inr (.inl rfl)
theorem zd1 (d e : Int) : zeroDec true d e = false := rfl
theorem zd2 {d : Int} (e : Int) (h : (d == 0) = false) : zeroDec false d e = false := by unfold zeroDec; rw [h]; rfl
theorem zd3 {e : Int} (h : (e == 0) = false) : zeroDec false 0 e = false := by unfold zeroDec; rw [h]; rfl
theorem zd0 : zeroDec false 0 0 = true := rfl
set_option maxHeartbeats 8000000 in
theorem GoodValue_k0 (k : Int) (n : Bool) (d x : Int) (t : ByteArray) (ht : t.size ≤ 1048576) (w : World) (hT : Tab w) (hk : k = 0) :
    Calls Tryd.prog 9 #[.agg #[.int .i64 k, .bool n, .int .i64 d, .int .i64 x, .string t]] w fun e w' => e = .returned (.bool (zeroDec n d x && (t.toList == ([] : List UInt8)))) ∧ Below w.heap.size w w' := by
  have hbx : ∀ q, Below w.heap.size w ((w.alloc (.cells #[.int .i64 k, .bool n, .int .i64 d, .int .i64 x, .string t] 30)).drewN q) := fun q => pw_below_drewN (below_alloc (Below.refl _ _) _) q
  have hgd := implGoodDec_is n d x
  have hpl := implPlain_is t ht 1000 1048590 (by omega)
  have HB := Lib.hid hbx; have HGD := Lib.hid hgd; have HPL := Lib.hid hpl; have HT := Lib.hid hT; clear hbx hgd hpl hT ht
  subst hk
  rcases zcases n d x with ⟨rfl, rfl, rfl⟩ | rfl | ⟨rfl, hd⟩ | ⟨rfl, rfl, hx⟩
  · rw [zd0, Bool.true_and]
    clear HGD HPL
    cases hb : (t.toList == ([] : List UInt8))
    all_goals
      go_enter Tryd.func9, Tryd.ntmps9
      go_wp2_with fail
      go_ret
      exact ⟨rfl, HB.out 0⟩
  · rw [zd1]
    clear HGD HPL
    go_enter Tryd.func9, Tryd.ntmps9
    go_wp2_with fail
    go_ret
    exact ⟨rfl, HB.out 0⟩
  · rw [zd2 x hd]
    clear HGD HPL
    go_enter Tryd.func9, Tryd.ntmps9
    go_wp2_with fail
    go_ret
    exact ⟨rfl, HB.out 0⟩
  · rw [zd3 hx]
    clear HGD HPL
    go_enter Tryd.func9, Tryd.ntmps9
    go_wp2_with fail
    go_ret
    exact ⟨rfl, HB.out 0⟩
set_option maxHeartbeats 8000000 in
theorem GoodValue_k1 (k : Int) (n : Bool) (d x : Int) (t : ByteArray) (ht : t.size ≤ 1048576) (w : World) (hT : Tab w) (hk : k = 1) :
    Calls Tryd.prog 9 #[.agg #[.int .i64 k, .bool n, .int .i64 d, .int .i64 x, .string t]] w fun e w' => e = .returned (.bool ((t.toList == ([] : List UInt8)) && goodDecB n d x)) ∧ Below w.heap.size w w' := by
  have hbx : ∀ q, Below w.heap.size w ((w.alloc (.cells #[.int .i64 k, .bool n, .int .i64 d, .int .i64 x, .string t] 30)).drewN q) := fun q => pw_below_drewN (below_alloc (Below.refl _ _) _) q
  have hgd := implGoodDec_is n d x
  have hpl := implPlain_is t ht 1000 1048590 (by omega)
  have HB := Lib.hid hbx; have HGD := Lib.hid hgd; have HPL := Lib.hid hpl; have HT := Lib.hid hT; clear hbx hgd hpl hT ht
  subst hk
  cases hb : (t.toList == ([] : List UInt8))
  · clear HGD HPL
    go_enter Tryd.func9, Tryd.ntmps9
    go_wp2_with fail
    go_ret
    exact ⟨rfl, HB.out 0⟩
  · rw [Bool.true_and]
    clear HPL
    go_enter Tryd.func9, Tryd.ntmps9
    go_wp2_with fail
    refine (impl_isGoodDec.calls _ _ _ _ _ HGD.out).mono ?_; rintro e w2 ⟨rfl, hd⟩; have HD := Lib.hid hd; clear hd
    go_wp2_with fail
    go_ret
    exact ⟨rfl, below_step (HB.out 0) HD.out⟩
set_option maxHeartbeats 8000000 in
theorem GoodValue_k2 (k : Int) (n : Bool) (d x : Int) (t : ByteArray) (ht : t.size ≤ 1048576) (w : World) (hT : Tab w) (hk : k = 2) :
    Calls Tryd.prog 9 #[.agg #[.int .i64 k, .bool n, .int .i64 d, .int .i64 x, .string t]] w fun e w' => e = .returned (.bool (zeroDec n d x && (printB t && decide ((t.size : Int) ≤ 1000)))) ∧ Below w.heap.size w w' := by
  have hbx : ∀ q, Below w.heap.size w ((w.alloc (.cells #[.int .i64 k, .bool n, .int .i64 d, .int .i64 x, .string t] 30)).drewN q) := fun q => pw_below_drewN (below_alloc (Below.refl _ _) _) q
  have hgd := implGoodDec_is n d x
  have hpl := implPlain_is t ht 1000 1048590 (by omega)
  have HB := Lib.hid hbx; have HGD := Lib.hid hgd; have HPL := Lib.hid hpl; have HT := Lib.hid hT; clear hbx hgd hpl hT ht
  subst hk
  rcases zcases n d x with ⟨rfl, rfl, rfl⟩ | rfl | ⟨rfl, hd⟩ | ⟨rfl, rfl, hx⟩
  · rw [zd0, Bool.true_and]
    clear HGD
    go_enter Tryd.func9, Tryd.ntmps9
    go_wp2_with fail
    refine (impl_plainText.calls _ _ _ _ _ HPL.out).mono ?_; rintro e w2 ⟨rfl, hd⟩; have HD := Lib.hid hd.below; clear hd
    go_wp2_with fail
    go_ret
    exact ⟨rfl, below_step (HB.out 0) HD.out⟩
  · rw [zd1]
    clear HGD HPL
    go_enter Tryd.func9, Tryd.ntmps9
    go_wp2_with fail
    go_ret
    exact ⟨rfl, HB.out 0⟩
  · rw [zd2 x hd]
    clear HGD HPL
    go_enter Tryd.func9, Tryd.ntmps9
    go_wp2_with fail
    go_ret
    exact ⟨rfl, HB.out 0⟩
  · rw [zd3 hx]
    clear HGD HPL
    go_enter Tryd.func9, Tryd.ntmps9
    go_wp2_with fail
    go_ret
    exact ⟨rfl, HB.out 0⟩
set_option maxHeartbeats 8000000 in
theorem GoodValue_k3 (k : Int) (n : Bool) (d x : Int) (t : ByteArray) (ht : t.size ≤ 1048576) (w : World) (hT : Tab w) (hk : k = 3) :
    Calls Tryd.prog 9 #[.agg #[.int .i64 k, .bool n, .int .i64 d, .int .i64 x, .string t]] w fun e w' => e = .returned (.bool (zeroDec n d x && ((t.toList == ([84, 82, 85, 69] : List UInt8)) || (t.toList == ([70, 65, 76, 83, 69] : List UInt8))))) ∧ Below w.heap.size w w' := by
  have hbx : ∀ q, Below w.heap.size w ((w.alloc (.cells #[.int .i64 k, .bool n, .int .i64 d, .int .i64 x, .string t] 30)).drewN q) := fun q => pw_below_drewN (below_alloc (Below.refl _ _) _) q
  have hgd := implGoodDec_is n d x
  have hpl := implPlain_is t ht 1000 1048590 (by omega)
  have HB := Lib.hid hbx; have HGD := Lib.hid hgd; have HPL := Lib.hid hpl; have HT := Lib.hid hT; clear hbx hgd hpl hT ht
  subst hk
  rcases zcases n d x with ⟨rfl, rfl, rfl⟩ | rfl | ⟨rfl, hd⟩ | ⟨rfl, rfl, hx⟩
  · rw [zd0, Bool.true_and]
    clear HGD HPL
    cases hb : (t.toList == ([84, 82, 85, 69] : List UInt8))
    · cases hb2 : (t.toList == ([70, 65, 76, 83, 69] : List UInt8))
      all_goals
        go_enter Tryd.func9, Tryd.ntmps9
        go_wp2_with fail
        go_ret
        exact ⟨rfl, HB.out 0⟩
    · go_enter Tryd.func9, Tryd.ntmps9
      go_wp2_with fail
      go_ret
      exact ⟨rfl, HB.out 0⟩
  · rw [zd1]
    clear HGD HPL
    go_enter Tryd.func9, Tryd.ntmps9
    go_wp2_with fail
    go_ret
    exact ⟨rfl, HB.out 0⟩
  · rw [zd2 x hd]
    clear HGD HPL
    go_enter Tryd.func9, Tryd.ntmps9
    go_wp2_with fail
    go_ret
    exact ⟨rfl, HB.out 0⟩
  · rw [zd3 hx]
    clear HGD HPL
    go_enter Tryd.func9, Tryd.ntmps9
    go_wp2_with fail
    go_ret
    exact ⟨rfl, HB.out 0⟩
set_option maxHeartbeats 8000000 in
theorem GoodValue_k4 (k : Int) (n : Bool) (d x : Int) (t : ByteArray) (ht : t.size ≤ 1048576) (w : World) (hT : Tab w) (hk : k = 4) :
    Calls Tryd.prog 9 #[.agg #[.int .i64 k, .bool n, .int .i64 d, .int .i64 x, .string t]] w fun e w' => e = .returned (.bool (zeroDec n d x && errFrom t 0)) ∧ Below w.heap.size w w' := by
  have hbx : ∀ q, Below w.heap.size w ((w.alloc (.cells #[.int .i64 k, .bool n, .int .i64 d, .int .i64 x, .string t] 30)).drewN q) := fun q => pw_below_drewN (below_alloc (Below.refl _ _) _) q
  have hgd := implGoodDec_is n d x
  have hpl := implPlain_is t ht 1000 1048590 (by omega)
  have HB := Lib.hid hbx; have HGD := Lib.hid hgd; have HPL := Lib.hid hpl; have HT := Lib.hid hT; clear hbx hgd hpl hT ht
  have hie := fun w' (h : Tab w') => isError_calls t w' h
  generalize errFrom t 0 = E at *
  have HIE := Lib.hid hie; clear hie
  subst hk
  rcases zcases n d x with ⟨rfl, rfl, rfl⟩ | rfl | ⟨rfl, hd⟩ | ⟨rfl, rfl, hx⟩
  · rw [zd0, Bool.true_and]
    clear HGD HPL
    go_enter Tryd.func9, Tryd.ntmps9
    go_wp2_with fail
    refine (HIE.out _ (HT.out.below (HB.out 0))).mono ?_; rintro e w2 ⟨rfl, hd⟩; have HD := Lib.hid hd.below; clear hd
    go_wp2_with fail
    go_ret
    exact ⟨rfl, below_step (HB.out 0) HD.out⟩
  · rw [zd1]
    clear HGD HPL
    go_enter Tryd.func9, Tryd.ntmps9
    go_wp2_with fail
    go_ret
    exact ⟨rfl, HB.out 0⟩
  · rw [zd2 x hd]
    clear HGD HPL
    go_enter Tryd.func9, Tryd.ntmps9
    go_wp2_with fail
    go_ret
    exact ⟨rfl, HB.out 0⟩
  · rw [zd3 hx]
    clear HGD HPL
    go_enter Tryd.func9, Tryd.ntmps9
    go_wp2_with fail
    go_ret
    exact ⟨rfl, HB.out 0⟩
set_option maxHeartbeats 8000000 in
theorem GoodValue_k5 (k : Int) (n : Bool) (d x : Int) (t : ByteArray) (ht : t.size ≤ 1048576) (w : World) (hT : Tab w) (h0 : (k == 0) = false) (h1 : (k == 1) = false) (h2 : (k == 2) = false) (h3 : (k == 3) = false) (h4 : (k == 4) = false) :
    Calls Tryd.prog 9 #[.agg #[.int .i64 k, .bool n, .int .i64 d, .int .i64 x, .string t]] w fun e w' => e = .returned (.bool (false)) ∧ Below w.heap.size w w' := by
  have hbx : ∀ q, Below w.heap.size w ((w.alloc (.cells #[.int .i64 k, .bool n, .int .i64 d, .int .i64 x, .string t] 30)).drewN q) := fun q => pw_below_drewN (below_alloc (Below.refl _ _) _) q
  have hgd := implGoodDec_is n d x
  have hpl := implPlain_is t ht 1000 1048590 (by omega)
  have HB := Lib.hid hbx; have HGD := Lib.hid hgd; have HPL := Lib.hid hpl; have HT := Lib.hid hT; clear hbx hgd hpl hT ht
  clear HGD HPL
  go_enter Tryd.func9, Tryd.ntmps9
  go_wp2_with fail
  go_ret
  exact ⟨rfl, HB.out 0⟩
theorem GoodValue_calls (k : Int) (n : Bool) (d x : Int) (t : ByteArray) (ht : t.size ≤ 1048576) (w : World) (hT : Tab w) :
    Calls Tryd.prog 9 #[.agg #[.int .i64 k, .bool n, .int .i64 d, .int .i64 x, .string t]] w fun e w' => e = .returned (.bool (goodValB k n d x t)) ∧ Below w.heap.size w w' := by
  unfold goodValB
  by_cases h0 : k = 0
  · rw [if_pos h0]; exact GoodValue_k0 k n d x t ht w hT h0
  rw [if_neg h0]
  by_cases h1 : k = 1
  · rw [if_pos h1]; exact GoodValue_k1 k n d x t ht w hT h1
  rw [if_neg h1]
  by_cases h2 : k = 2
  · rw [if_pos h2]; exact GoodValue_k2 k n d x t ht w hT h2
  rw [if_neg h2]
  by_cases h3 : k = 3
  · rw [if_pos h3]; exact GoodValue_k3 k n d x t ht w hT h3
  rw [if_neg h3]
  by_cases h4 : k = 4
  · rw [if_pos h4]; exact GoodValue_k4 k n d x t ht w hT h4
  rw [if_neg h4]
  exact GoodValue_k5 k n d x t ht w hT (by simpa using h0) (by simpa using h1) (by simpa using h2) (by simpa using h3) (by simpa using h4)
end Go.Proofs.YtmpimcfmhpfkaaaDoor.PFnExactGoodValue
