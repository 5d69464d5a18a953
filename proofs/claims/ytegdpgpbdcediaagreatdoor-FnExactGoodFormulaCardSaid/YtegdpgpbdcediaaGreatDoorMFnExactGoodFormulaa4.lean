/- Functions of the program as Lean functions, and proofs that the Go code comes to their answers: for the law FnExactGoodFormula; made out of the print by a program of mine (compact.py). No conditions but each theorem's own. -/
import Derived.Test.YtegdpgpbdcediaaGreatDoorMFnExactGoodFormulaa0
import Derived.Test.YtegdpgpbdcediaaGreatDoorMFnExactGoodFormulaa2
import Derived.Test.YtegdpgpbdcediaaGreatDoorMFnExactGoodFormulaa3
namespace Go.Proofs.YtegdpgpbdcediaaGreatDoor.PFnExactGoodFormula
open List (map_toArray map_cons map_nil length_drop length_take set_cons_zero set_cons_succ setIfInBounds_toArray)
open Go.RowKit Go.Proofs.YtegdpgpbdcediaaGreatDoorW.PrintWords Go.Proofs.YtegdpgpbdcediaaGreatDoorW.PrintLast Go.Proofs.YtegdpgpbdcediaaGreatDoorW.PrintMore
attribute [local go_sem] max2_int min2_int max_two min_two max_three min_three max_four min_four   -- for this text's walks alone
set_option linter.unusedVariables false
set_option linter.unusedSimpArgs false

attribute [local go_sem high] eqA47 eqA65
abbrev bt4_0 : Array Bool := #[false, false, false, false, false, false, false, false, false, false, false, false, false, false, false, false]
abbrev bt4_1 : Array Bool := #[true, false, false, false, false, false, false, false, false, false, false, false, false, false, false, false]
abbrev bt4_2 : Array Bool := #[true, false, false, true, false, false, false, false, false, false, false, false, false, false, false, false]
abbrev bt4_3 : Array Bool := #[true, false, false, true, false, false, false, true, false, false, false, false, false, false, false, false]
abbrev bt4_4 : Array Bool := #[true, false, false, true, false, false, false, true, false, false, false, true, false, false, false, false]
abbrev bt4_5 : Array Bool := #[true, true, false, true, false, false, false, true, false, false, false, true, false, false, false, false]
abbrev bt4_6 : Array Bool := #[true, true, false, true, true, false, false, true, false, false, false, true, false, false, false, false]
abbrev bt4_7 : Array Bool := #[true, true, false, true, true, false, false, true, true, false, false, true, false, false, false, false]
abbrev bt4_8 : Array Bool := #[true, true, false, true, true, false, false, true, true, false, false, true, true, false, false, false]
abbrev bt4_9 : Array Bool := #[true, true, true, true, true, false, false, true, true, false, false, true, true, false, false, false]
abbrev bt4_10 : Array Bool := #[true, true, true, true, true, true, false, true, true, false, false, true, true, false, false, false]
abbrev bt4_11 : Array Bool := #[true, true, true, true, true, true, true, true, true, false, false, true, true, false, false, false]
abbrev bt4_12 : Array Bool := #[true, true, true, true, true, true, true, true, true, true, false, true, true, false, false, false]
abbrev bt4_13 : Array Bool := #[true, true, true, true, true, true, true, true, true, true, true, true, true, false, false, false]
abbrev bt4_14 : Array Bool := #[true, true, true, true, true, true, true, true, true, true, true, true, true, true, false, false]
abbrev bt4_15 : Array Bool := #[true, true, true, true, true, true, true, true, true, true, true, true, true, true, true, false]
abbrev bt4_16 : Array Bool := #[true, true, true, true, true, true, true, true, true, true, true, true, true, true, true, true]
set_option maxHeartbeats 4000000 in
set_option maxRecDepth 100000 in
theorem l1Text_neg (u : Nat) (h1 : 1 ≤ u) (h2 : u < 1000000000000000000) (w : World) :
  Calls Tryz.prog 135 #[.agg #[.int .i64 (-(u : Int)), .bool false, .slice none 0 0]] w fun e w' => e = .returned (.string ⟨(Lib.itoa (-(u : Int))).toArray⟩) ∧ Below w.heap.size w w' := by
 obtain ⟨v, hv⟩ : ∃ v : Int, v = (-(u : Int)) := ⟨_, rfl⟩
 rw [← hv]
 obtain ⟨i0, hi, hz0, hz1, hz2⟩ := info_parts u8info
 have hu := fun w => l1Limbs_calls v u (.inr ⟨hv, decide_eq_true (by omega), decide_eq_true (by omega)⟩) h1 h2 w
 obtain ⟨n, hn⟩ : ∃ n, n = nl u := ⟨_, rfl⟩
 rw [← hn] at hu
 have hn1 : 1 ≤ n := by have := nl_or u; omega
 have hn2 : n ≤ 2 := by have := nl_or u; omega
 have hND : Lib.nDigits u ≤ 9 * n := by rw [hn]; exact nDigits_le u h2
 obtain ⟨N, hN⟩ : ∃ N, N = Lib.nDigits u := ⟨_, rfl⟩
 rw [← hN] at hND
 have hN1 : 1 ≤ N := by rw [hN]; exact Lib.nDigits_pos u
 have dlt : decide (v < 0) = true := decide_eq_true (by omega)
 have d1 : ((n : Int) == 0) = false := beq_eq_false_iff_ne.mpr (by omega)
 have w1_ : IntKind.i64.wrap (9 * (n : Int)) = 9 * (n : Int) := IntWalk.i64_in _ (by omega)
 have w2_ : IntKind.i64.wrap (9 * (n : Int) + 1) = 9 * (n : Int) + 1 := IntWalk.i64_in _ (by omega)
 have hk0 := blk_new w (.cells #[.int .i64 v, .bool false, .slice none 0 0] 163)
 have hb0 := z2q (Below.refl w.heap.size w) (.cells #[.int .i64 v, .bool false, .slice none 0 0] 163)
 have HU := Lib.hid hu; have HN := Lib.hid hn; have HNN := Lib.hid hN; have HND := Lib.hid hND; have HV := Lib.hid hv; have HK0 := Lib.hid hk0; have HB0 := Lib.hid hb0; have H1 := Lib.hid h1; have H2 := Lib.hid h2; have HZ2 := Lib.hid hz2
 clear hu hn hN hv hk0 hb0 h1 h2 hz2 hND
 go_enter Tryz.func135, Tryz.ntmps135
 go_wp2_with fail
 refine (HU.out _).mono ?_; rintro e w1 ⟨rfl, hl, hb⟩
 simp only [World.size_alloc] at hl hb
 have HK1 := Lib.hid (z15q HK0.out (by simpa only [World.size_alloc] using hb))
 have HL1 := Lib.hid hl
 have HB1 := Lib.hid (z6q HB0.out (by simpa only [World.size_alloc] using hb))
 clear hl hb HK0 HB0
 go_wp2_with (at_make; refine wpList_make_own _ rfl _ _ 116 rfl w.heap.size 5 i0 (.int .u8 0) 1 Tryz.underlying116 hi hz0 hz1 _ _ _ (9 * n + 1) rfl rfl (by push_cast; rfl) (by rw [HZ2.out]; omega) (by unfold maxLen; omega) HB1.out.size ?_)
 intro w2 hown hgrow
 have HK2 := Lib.hid (blk_grown HK1.out hgrow (by simp)); have HL2 := Lib.hid (blk_grown HL1.out hgrow (by simp))
 have HB2 := Lib.hid (HB1.out.grown hgrow HB1.out.size (fun k h => by cases h))
 have HO := Lib.hid hown
 have hlt1 : Hid (w.heap.size < w1.heap.size ∧ w.heap.size + 1 + 1 < w1.heap.size) := Lib.hid ⟨z21q HK1.out, z21q HL1.out⟩
 clear hown hgrow HK1 HL1
 have HO0 : Hid (World.ownsRow w2 w.heap.size 5 1 (.slice (some ⟨w1.heap.size, 0, none⟩) (9 * 0) (9 * n + 1)) (9 * 0) (digs u (9 * 0))) := Lib.hid (by simpa [digs] using HO.out)
 clear HO
 go_wp2_with fail
 go_loopw [23, 4] (fun i s w' => ∃ j : Nat, j ≤ n ∧ i = .int .i64 j ∧ s = (.slice (some ⟨w1.heap.size, 0, none⟩) (9 * j) (9 * n + 1)) ∧ Hid (World.ownsRow w' w.heap.size 5 1 (.slice (some ⟨w1.heap.size, 0, none⟩) (9 * j) (9 * n + 1)) (9 * j) (digs u (9 * j))) ∧ Hid (w'.heap[w.heap.size]? = some (.cells #[.int .i64 v, .bool false, .slice none 0 0] 163 (0, 0))) ∧ Hid (w'.heap[w.heap.size + 1 + 1]? = some (.cells (limbC u) 179 (0, 0))) ∧ Hid (Below w.heap.size w w')) (fun i _ _ => n - (intOf i).toNat)
 case atStart => exact ⟨0, Nat.zero_le _, rfl, rfl, HO0, HK2, HL2, HB2⟩
 case round =>
  clear HO0 HK2 HL2 HB2
  obtain ⟨j, hj, rfl, rfl, HO, HK, HL, HB⟩ := hrel
  by_cases hlt : j < n
  ·have hc := (z1q HL.out j).trans (limbC_at u j H2.out (by have := HN.out; omega))
   have hj2 : j < 2 := by omega
   rw [show 9 * j = 9 * j + 0 from rfl] at HO
   have hx0 : limb u j / 10 ^ 0 = limb u j := by simp
   have HX0 := Lib.hid hx0; clear hx0
   go_wp2_with fail
   go_loopw [7, 6, 4] (fun k x s w' => ∃ q : Nat, q ≤ 9 ∧ k = .int .i64 q ∧ x = .int .u32 ((limb u j / 10 ^ q : Nat) : Int) ∧ s = (.slice (some ⟨w1.heap.size, 0, none⟩) (9 * j + q) (9 * n + 1)) ∧ Hid (World.ownsRow w' w.heap.size 5 1 (.slice (some ⟨w1.heap.size, 0, none⟩) (9 * j + q) (9 * n + 1)) (9 * j + q) (digs u (9 * j + q))) ∧ Hid (w'.heap[w.heap.size]? = some (.cells #[.int .i64 v, .bool false, .slice none 0 0] 163 (0, 0))) ∧ Hid (w'.heap[w.heap.size + 1 + 1]? = some (.cells (limbC u) 179 (0, 0))) ∧ Hid (Below w.heap.size w w')) (fun k _ _ _ => 9 - (intOf k).toNat)
   case atStart => exact ⟨0, by omega, rfl, by rw [HX0.out], rfl, HO, HK, HL, HB⟩
   case round =>
    clear HO HK HL HB hc HX0
    obtain ⟨q, hq, rfl, rfl, rfl, HO, HK, HL, HB⟩ := hrel
    by_cases hq9 : q < 9
    ·obtain ⟨X, hX⟩ : ∃ X, X = limb u j / 10 ^ q := ⟨_, rfl⟩
     have hX9 : X ≤ 999999999 := by rw [hX]; exact limb_le u j q
     have hdg := limb_digit u j q hq9
     have hnx : limb u j / 10 ^ (q + 1) = X / 10 := by rw [hX, Nat.div_div_eq_div_mul, Nat.pow_succ]
     rw [← hX] at hdg ⊢
     have g1 : decide ((q : Int) < 9) = true := decide_eq_true (by omega)
     have HDG := Lib.hid hdg; have HNX := Lib.hid hnx; clear hdg hnx hX
     go_wp2_with (at_builtin; refine wpList_append_fits _ rfl (.tmp 34) (.tmp 39) 116 rfl w.heap.size 5 i0 1 Tryz.underlying116 hi hz1 w1.heap.size (9 * j + q) (9 * n + 1) _ rfl (HO.out.alloc _) ⟨wr.heap.size, 0, none⟩ 1 1 [.int .u8 (48 + (X : Int) % 10)] rfl rfl (by intro t z ht; match t, ht with | 0, ht => simp at ht; subst ht; simp [Addr.add]) (by intro z hz; simp at hz; subst hz; rfl) (by omega) ?_; intro w3 hown hgrow)
     have HKn := Lib.hid (blk_grown (z10q HK.out _) hgrow (by have := hlt1.out; intro h; injection h with h; omega)); clear HK; have HK := HKn; clear HKn
     have HLn := Lib.hid (blk_grown (z10q HL.out _) hgrow (by have := hlt1.out; intro h; injection h with h; omega)); clear HL; have HL := HLn; clear HLn
     have HBn := Lib.hid ((z2q HB.out _).grown hgrow (z2q HB.out _).size (fun k h => by have := hlt1.out; injection h with h; omega)); clear HB; have HB := HBn; clear HBn
     have HOn := Lib.hid hown; clear hown hgrow HO
     go_wp2_with fail
     go_roundw
     case rel => exact ⟨q + 1, by omega, by go_num, by rw [HNX.out]; first | rfl | (congr 1; omega), rfl, Lib.hid (by have := HOn.out; rw [show 9 * j + (q + 1) = 9 * j + q + 1 from rfl, digs_succ, HDG.out]; first | exact this | simpa using this), HK, HL, HB⟩
     case measure => simp [intOf]; omega
    ·obtain rfl : q = 9 := by omega
     have g1 : decide (((9 : Nat) : Int) < 9) = false := rfl
     go_wp2_with fail
     go_roundw
     case rel => exact ⟨j + 1, by omega, by go_num, by rw [show 9 * (j + 1) = 9 * j + 9 from rfl], by rw [show 9 * (j + 1) = 9 * j + 9 from rfl]; exact HO, HK, HL, HB⟩
     case measure => simp [intOf]; omega
  ·obtain rfl : j = n := by omega
   clear hlt hj HL
   have w3_ : IntKind.i64.wrap (((9 * j : Nat) : Int)) = ((9 * j : Nat) : Int) := IntWalk.i64_in _ (by omega)
   go_wp2_with fail
   go_loopw [8] (fun m w' => ∃ q : Nat, N ≤ q ∧ q ≤ 9 * j ∧ m = .int .i64 q ∧ w' = wr) (fun m _ => (intOf m).toNat)
   case atStart => exact ⟨9 * j, HND.out, Nat.le_refl _, by go_num, rfl⟩
   case round =>
    obtain ⟨q, hq1, hq2, rfl, rfl⟩ := hrel
    have hc := (HO.out.cellAt (q - 1) (by omega)).trans (digs_at u (9 * j) (q - 1) (by omega))
    have e1 : IntKind.i64.wrap ((q : Int) - 1) = ((q - 1 : Nat) : Int) := by rw [IntWalk.i64_in _ (by omega)]; omega
    have g1 : decide ((q : Int) > 0) = true := decide_eq_true (by omega)
    by_cases hqn : N < q
    ·have hz : (digI u (q - 1) == 48) = true := beq_iff_eq.mpr (dig_over u (q - 1) (by have := HNN.out; omega))
     go_wp2_with fail
     go_roundw
     case rel => exact ⟨q - 1, by omega, by omega, by first | rfl | go_num, by first | rfl | trivial⟩
     case measure => simp [intOf]; omega
    ·obtain rfl : q = N := by omega
     have hz : (digI u (q - 1) == 48) = false := beq_eq_false_iff_ne.mpr (by have := dig_top u H1.out; rw [HNN.out]; exact this)
     have w4_ : IntKind.i64.wrap ((q : Int) + 1) = (q : Int) + 1 := IntWalk.i64_in _ (by omega)
     obtain ⟨tb, htb⟩ : ∃ tb, wr.heap.size = tb := ⟨_, rfl⟩
     have hlt2 : Hid (w.heap.size < tb ∧ w1.heap.size < tb) := Lib.hid ⟨by rw [← htb]; exact z21q HK.out, by rw [← htb]; exact (HO.out.lt _ rfl).2⟩
     have HTB := Lib.hid htb; clear htb
     go_wp2_with (at_make; refine wpList_make_own _ rfl _ _ 116 rfl w.heap.size 5 i0 (.int .u8 0) 1 Tryz.underlying116 hi hz0 hz1 _ _ _ (q + 1) rfl rfl (by push_cast; rfl) (by rw [HZ2.out]; omega) (by unfold maxLen; omega) HB.out.size ?_)
     intro w4 hown hgrow
     rw [HTB.out] at hown ⊢
     have HKn := Lib.hid (blk_grown HK.out hgrow (by simp)); clear HK; have HK := HKn; clear HKn
     have HOn := Lib.hid (HO.out.kept hgrow (.inr (by simp [Value.ownBlock]))); clear HO; have HO := HOn; clear HOn
     have HBn := Lib.hid (HB.out.grown hgrow HB.out.size (fun k h => by cases h)); clear HB; have HB := HBn; clear HBn
     have HT := Lib.hid hown; clear hown hgrow hc
     have k0 := z1q HK.out 0; have k1 := z1q HK.out 1; have k2 := z1q HK.out 2; simp at k0 k1 k2
     go_wp2_with (first | (go_at_call 151; (with_reducible refine (l1Neg_calls v _ dlt _).mono ?_); rintro e w' ⟨rfl, rfl⟩) | (at_builtin; refine wpList_append_fits _ rfl (.tmp 63) (.tmp 64) 116 rfl w.heap.size 5 i0 1 Tryz.underlying116 hi hz1 tb 0 (q + 1) _ rfl ((HT.out.alloc _).alloc _) ⟨w4.heap.size + 1, 0, none⟩ 1 1 [.int .u8 45] rfl rfl (by intro t z ht; match t, ht with | 0, ht => simp at ht; subst ht; simp [Addr.add]) (by intro z hz; simp at hz; subst hz; rfl) (by omega) ?_; intro w5 hown hgrow))
     have HT5 := Lib.hid hown
     have HOn := Lib.hid (World.ownsRow.kept ((HO.out.alloc _).alloc _) hgrow (.inr (by have := hlt2.out; simp [Value.ownBlock]; omega))); clear HO; have HO := HOn; clear HOn
     have HBn := Lib.hid ((z2q (z2q HB.out _) _).grown hgrow (z2q (z2q HB.out _) _).size (fun k h => by have := hlt2.out; injection h with h; omega)); clear HB; have HB := HBn; clear HBn
     clear hown hgrow HT; have HT := HT5; clear HT5
     go_wp2_with fail
     clear k0 k1 k2 HK
     go_loopw [10, 9] (fun i s w' => ∃ p : Nat, p ≤ q ∧ i = .int .i64 ((q : Int) - 1 - p) ∧ s = (.slice (some ⟨tb, 0, none⟩) (p + 1) (q + 1)) ∧ Hid (World.ownsRow w' w.heap.size 5 1 (.slice (some ⟨tb, 0, none⟩) (p + 1) (q + 1)) (p + 1) (([45] ++ outD u q p).map (Value.int .u8))) ∧ Hid (World.ownsRow w' w.heap.size 5 1 (.slice (some ⟨w1.heap.size, 0, none⟩) (9 * j) (9 * j + 1)) (9 * j) (digs u (9 * j))) ∧ Hid (Below w.heap.size w w')) (fun i _ _ => (intOf i + 1).toNat)
     case atStart =>
      exact ⟨0, Nat.zero_le _, by go_num, rfl, Lib.hid (by first | exact HT.out | simpa [outD] using HT.out), HO, HB⟩
     case round =>
      clear HO HB HT
      obtain ⟨p, hp, rfl, rfl, HT, HO, HB⟩ := hrel
      by_cases hpq : p < q
      ·obtain ⟨z, hz_⟩ : ∃ z : Nat, (q : Int) - 1 - p = (z : Int) := ⟨q - 1 - p, by omega⟩
       rw [hz_]
       have hzn : z = q - 1 - p := by omega
       have hz9 : z < 9 * j := by omega
       have hc := (HO.out.cellAt z (by omega)).trans (digs_at u (9 * j) z (by omega))
       have g2 : decide ((z : Int) ≥ 0) = true := decide_eq_true (by omega)
       have g3 : IntKind.i64.wrap ((z : Int) - 1) = (z : Int) - 1 := IntWalk.i64_in _ (by omega)
       have HZ := Lib.hid hz_; have HZN := Lib.hid hzn; clear hz_ hzn
       go_wp2_with (at_builtin; refine wpList_append_fits _ rfl (.tmp 72) (.tmp 77) 116 rfl w.heap.size 5 i0 1 Tryz.underlying116 hi hz1 tb (p + 1) (q + 1) _ rfl (HT.out.alloc _) ⟨wr.heap.size, 0, none⟩ 1 1 [.int .u8 (digI u z)] rfl rfl (by intro t z ht; match t, ht with | 0, ht => simp at ht; subst ht; simp [Addr.add]) (by intro z hz; simp at hz; subst hz; rfl) (by omega) ?_; intro w6 hown hgrow)
       have HT6 := Lib.hid hown
       have HOn := Lib.hid (World.ownsRow.kept (HO.out.alloc _) hgrow (.inr (by have := hlt2.out; simp [Value.ownBlock]; omega))); clear HO; have HO := HOn; clear HOn
       have HBn := Lib.hid ((z2q HB.out _).grown hgrow (z2q HB.out _).size (fun k h => by have := hlt2.out; injection h with h; omega)); clear HB; have HB := HBn; clear HBn
       clear hown hgrow HT hc; have HT := HT6; clear HT6
       go_wp2_with fail
       go_roundw
       case rel => exact ⟨p + 1, by omega, by have := HZ.out; go_num, rfl, Lib.hid (by have := HT.out; rw [outD_succ, ← HZN.out]; rw [← List.append_assoc, List.map_append]; exact this), HO, HB⟩
       case measure => have := HZ.out; (simp [intOf] <;> omega)
      ·obtain rfl : p = q := by omega
       have e5 : (p : Int) - 1 - p = -1 := by omega
       rw [e5]
       have hcv : (convert 116 9 (.slice (some ⟨tb, 0, none⟩) (p + 1) (p + 1))).run Tryz.prog wr = .ok (.string (strOfNums ([45] ++ outD u p p))) wr := by
        refine string_of_reads Tryz.underlying116 Tryz.underlying5 Tryz.underlying9 ⟨by (try simp [outD_length]) <;> omega, by (try simp [outD_length]) <;> omega, fun _ => ⟨_, rfl, fun i hi_ => ?_⟩⟩
        have e6 : (Addr.add ⟨tb, 0, none⟩ i) = ⟨tb, i, none⟩ := by simp [Addr.add]; intro h; exact h.symm
        rw [e6, HT.out.cellAt i (by omega)]
        have hl_ : i < ([45] ++ outD u p p).length := by simp [outD_length] <;> omega
        rw [List.getElem?_map, List.getElem?_eq_getElem hl_, List.getD_eq_getElem?_getD, List.getElem?_eq_getElem hl_]; rfl
       clear e5
       go_wp2_with fail
       go_ret
       refine ⟨?_, HB.out⟩
       rw [HV.out, ← out_neg u H1.out, ← HNN.out]; rfl

set_option maxHeartbeats 2000000 in
theorem l1Text_zero (w : World) :
  Calls Tryz.prog 135 #[.agg #[.int .i64 0, .bool false, .slice none 0 0]] w fun e w' => e = .returned (.string ⟨(Lib.itoa 0).toArray⟩) ∧ Below w.heap.size w w' := by
 have e0 : Lib.itoa 0 = [48] := by simp [Lib.itoa, Lib.decDigits]
 have hb0 := z2q (Below.refl w.heap.size w) (.cells #[.int .i64 0, .bool false, .slice none 0 0] 163)
 have HB0 := Lib.hid hb0; have HE := Lib.hid e0; clear hb0 e0
 go_enter Tryz.func135, Tryz.ntmps135
 go_wp2_with fail
 refine (l1Limbs_zero _).mono ?_; rintro e w1 ⟨rfl, hb⟩
 have HB1 := Lib.hid (z6q HB0.out (by simpa only [World.size_alloc] using hb)); clear hb
 go_wp2_with fail
 go_ret
 exact ⟨by rw [HE.out]; rfl, HB1.out⟩

theorem l1Text_calls (v : Int) (h1 : -1000000000000000000 < v) (h2 : v < 1000000000000000000) (w : World) :
  Calls Tryz.prog 135 #[.agg #[.int .i64 v, .bool false, .slice none 0 0]] w fun e w' => e = .returned (.string ⟨(Lib.itoa v).toArray⟩) ∧ Below w.heap.size w w' := by
 rcases Int.lt_trichotomy v 0 with h | rfl | h
 ·obtain ⟨u, rfl⟩ : ∃ u : Nat, v = -(u : Int) := ⟨v.natAbs, by omega⟩
  exact l1Text_neg u (by omega) (by omega) w
 ·exact l1Text_zero w
 ·obtain ⟨u, rfl⟩ : ∃ u : Nat, v = (u : Int) := ⟨v.natAbs, by omega⟩
  exact l1Text_pos u (by omega) (by omega) w

set_option maxHeartbeats 2000000 in
set_option maxRecDepth 100000 in
theorem l1Num_calls (n : Int) (h1 : -1000000000000000000 < n) (h2 : n < 1000000000000000000) (w : World) :
  Calls Tryz.prog 118 #[.int .i64 n] w fun e w' => e = .returned (.string ⟨(Lib.itoa n).toArray⟩) ∧ Below w.heap.size w w' := by
 obtain ⟨q, hq⟩ : ∃ q, q = n.tdiv 10 := ⟨_, rfl⟩
 obtain ⟨r, hr⟩ : ∃ r, r = n.tmod 10 := ⟨_, rfl⟩
 have hs := Int.mul_tdiv_add_tmod n 10
 rw [← hq, ← hr] at hs
 have hr1 : -9 ≤ r ∧ r ≤ 9 ∧ (n < 0 → r ≤ 0) ∧ (0 ≤ n → 0 ≤ r) := by rw [hr]; exact tmod10 n
 have hq2 : -99999999999999999 ≤ q ∧ q ≤ 99999999999999999 := by omega
 have e1 : IntKind.i64.wrap q = q := IntWalk.i64_in _ (by omega)
 have e2 : q * 10 + r = n := by omega
 have c1 := fun w => l1Small_calls q (by omega) (by omega) w
 have c2 := fun w => l1Small_calls 10 (by omega) (by omega) w
 have c3 := fun w => l1Mul10_calls q hq2.1 hq2.2 w
 have c4 := fun w => l1Small_calls r (by omega) (by omega) w
 have c5 := fun w => l1Add_calls (q * 10) r (by omega) (by omega) w
 have c6 := fun w => l1Text_calls n h1 h2 w
 rw [e2] at c5
 have C1 := Lib.hid c1; have C2 := Lib.hid c2; have C3 := Lib.hid c3; have C4 := Lib.hid c4; have C5 := Lib.hid c5; have C6 := Lib.hid c6; have HE2 := Lib.hid e2
 have hq' := hq.symm; have hr' := hr.symm
 clear c1 c2 c3 c4 c5 c6 hs hr1 hq2 h1 h2 hq hr e2
 go_enter Tryz.func118, Tryz.ntmps118
 go_wp2_with fail
 refine (C1.out _).mono ?_; rintro e w1 ⟨rfl, hb⟩
 have HB := Lib.hid hb; clear hb
 go_wp2_with fail
 refine (C2.out _).mono ?_; rintro e w2 ⟨rfl, hb⟩
 have HB2 := Lib.hid (z6q HB.out hb); clear hb HB
 go_wp2_with fail
 refine (C3.out _).mono ?_; rintro e w3 ⟨rfl, hb⟩
 have HB3 := Lib.hid (z6q HB2.out hb); clear hb HB2
 go_wp2_with fail
 refine (C4.out _).mono ?_; rintro e w4 ⟨rfl, hb⟩
 have HB4 := Lib.hid (z6q HB3.out hb); clear hb HB3
 go_wp2_with fail
 refine (C5.out _).mono ?_; rintro e w5 ⟨rfl, hb⟩
 have HB5 := Lib.hid (z6q HB4.out hb); clear hb HB4
 go_wp2_with fail
 refine (C6.out _).mono ?_; rintro e w6 ⟨rfl, hb⟩
 have HB6 := Lib.hid (z6q HB5.out hb); clear hb HB5
 go_wp2_with fail
 go_ret
 exact ⟨rfl, HB6.out⟩



def spec_l1Num.f (a0 : Int) : Option ByteArray := if -1000000000000000000 < a0 ∧ a0 < 1000000000000000000 then some ⟨(Lib.itoa a0).toArray⟩ else none

theorem spec_l1Num.calls (a0 : Int) (r : ByteArray) (w : World) (h : spec_l1Num.f a0 = some r) :
  Calls Tryz.prog 118 #[.int .i64 a0] w fun e w' => e = .returned (.string r) ∧ Below w.heap.size w w' := by
 unfold spec_l1Num.f at h
 by_cases hs : -1000000000000000000 < a0 ∧ a0 < 1000000000000000000
 ·rw [if_pos hs] at h
  obtain rfl := Option.some.inj h
  exact l1Num_calls a0 hs.1 hs.2 w
 ·rw [if_neg hs] at h; cases h




/-! ### spec_l3Fix: function 166 -/

def spec_l3Fix.f (a0 : Bool) : Option (ByteArray) := if a0 = true then (some (⟨#[36]⟩ : ByteArray)) else (some (⟨#[]⟩ : ByteArray))

set_option maxHeartbeats 8000000 in
set_option maxRecDepth 100000 in
theorem spec_l3Fix.calls (a0 : Bool) (r : ByteArray) (w : World) (h : spec_l3Fix.f a0 = some r) :
  Calls Tryz.prog 166 #[.bool a0] w fun e w' => e = .returned (.string r) ∧ Drawn0 w w' := by
 have H : (if a0 = true then (some (⟨#[36]⟩ : ByteArray)) else (some (⟨#[]⟩ : ByteArray))) = some r := h
 clear h
 by_cases c2 : a0 = true
 ·subst c2
  have H1 : (some (⟨#[36]⟩ : ByteArray)) = some r := by rw [if_pos rfl] at H; exact H
  clear H
  have H := H1
  clear H1
  obtain rfl := Option.some.inj H
  go_enter Tryz.func166, Tryz.ntmps166
  go_wp2
  go_ret
  exact ⟨by first | rfl | (simp; done) | (simp [*]; done), by repeat (first | exact Drawn0.refl _ | apply Drawn0.step)⟩
 ·replace c2 := Bool.eq_false_iff.mpr c2
  subst c2
  have H1 : (some (⟨#[]⟩ : ByteArray)) = some r := by rw [if_neg (show ¬ (false = true) by decide)] at H; exact H
  clear H
  have H := H1
  clear H1
  obtain rfl := Option.some.inj H
  go_enter Tryz.func166, Tryz.ntmps166
  go_wp2
  go_ret
  exact ⟨by first | rfl | (simp; done) | (simp [*]; done), by repeat (first | exact Drawn0.refl _ | apply Drawn0.step)⟩



/-! ### spec_RefText: function 149 -/

def spec_RefText.f (k : Nat) (a0_0 : Int) (a0_1 : Int) (a0_2 : Bool) (a0_3 : Bool) : Option (ByteArray) := (spec_GoodRef.f a0_0 a0_1 a0_2 a0_3).bind fun t244 => (if t244 = true then ((spec_l3Fix.f a0_3).bind fun t245 => ((spec_ColName.f k a0_1).bind fun t246 => (if t245.size + t246.size ≤ 9223372036854775807 then ((spec_l3Fix.f a0_2).bind fun t247 => (if (t245 ++ t246).size + t247.size ≤ 9223372036854775807 then ((spec_l1Num.f a0_0).bind fun t248 => (if ((t245 ++ t246) ++ t247).size + t248.size ≤ 9223372036854775807 then (some (((t245 ++ t246) ++ t247) ++ t248)) else (none))) else (none))) else (none)))) else (some (⟨#[]⟩ : ByteArray)))

theorem spec_RefText.mono : ∀ a0 a1 a2 a3 k, LeO (spec_RefText.f k a0 a1 a2 a3) (spec_RefText.f (k + 1) a0 a1 a2 a3) := by
 intro a0 a1 a2 a3 k
 unfold spec_RefText.f
 repeat' first
   | (with_reducible exact spec_ColName.mono _ _)
   | (with_reducible exact LeO.refl _)
   | (with_reducible exact LeO.none _)
   | (with_reducible refine LeO.ite ?_ ?_)
   | (with_reducible refine LeO.bind ?_ (fun _ => ?_))
   | exact spec_ColName.mono _ _
   | exact LeO.none _
   | refine LeO.ite ?_ ?_
   | refine LeO.bind ?_ (fun _ => ?_)

def spec_RefText.T3 : Bool × List (List Nat × List Nat) := (true, [([], []), ([0], [0]), ([1], [1]), ([], []), ([3], [3]), ([4, 2], [4]), ([2, 5], [2, 5]), ([], []), ([7], [7]), ([8, 5], [8]), ([6, 9], [6, 9]), ([], []), ([11], [11]), ([12, 9], [12]), ([10, 13], [10, 13]), ([14, 13, 0, 1, 2, 3, 4, 5, 6, 7, 8, 9, 10, 11, 12, 13, 14], [14])])

def spec_RefText.B3 : List Nat := [0, 1, 3, 0, 8, 31, 63, 0, 128, 447, 1023, 0, 2048, 7103, 16383, 32767]

theorem spec_RefText.tab3 : rtab .any (opsOf Tryz.f149 3) = spec_RefText.T3 := by kernel_rfl

theorem spec_RefText.bits3 : waitsOk spec_RefText.T3.2 spec_RefText.B3 = true := by kernel_rfl

set_option maxHeartbeats 8000000 in
set_option maxRecDepth 100000 in
theorem spec_RefText.calls (k : Nat) (a0_0 : Int) (a0_1 : Int) (a0_2 : Bool) (a0_3 : Bool) (r : ByteArray) (w : World) (h : spec_RefText.f k a0_0 a0_1 a0_2 a0_3 = some r) :
  Calls Tryz.prog 149 #[.agg #[.int .i64 a0_0, .int .i64 a0_1, .bool a0_2, .bool a0_3]] w fun e w' => e = .returned (.string r) ∧ Below w.heap.size w w' := by
 have hu47 := Tryz.underlying47
 have HB := Aside0.mk (Below.refl w.heap.size w)
 have H : ((spec_GoodRef.f a0_0 a0_1 a0_2 a0_3).bind fun t244 => (if t244 = true then ((spec_l3Fix.f a0_3).bind fun t245 => ((spec_ColName.f k a0_1).bind fun t246 => (if t245.size + t246.size ≤ 9223372036854775807 then ((spec_l3Fix.f a0_2).bind fun t247 => (if (t245 ++ t246).size + t247.size ≤ 9223372036854775807 then ((spec_l1Num.f a0_0).bind fun t248 => (if ((t245 ++ t246) ++ t247).size + t248.size ≤ 9223372036854775807 then (some (((t245 ++ t246) ++ t247) ++ t248)) else (none))) else (none))) else (none)))) else (some (⟨#[]⟩ : ByteArray)))) = some r := h
 clear h
 replace H := Option.bind_eq_some_iff.mp H
 obtain ⟨t244, A20, H⟩ := H
 replace H : (if t244 = true then ((spec_l3Fix.f a0_3).bind fun t245 => ((spec_ColName.f k a0_1).bind fun t246 => (if t245.size + t246.size ≤ 9223372036854775807 then ((spec_l3Fix.f a0_2).bind fun t247 => (if (t245 ++ t246).size + t247.size ≤ 9223372036854775807 then ((spec_l1Num.f a0_0).bind fun t248 => (if ((t245 ++ t246) ++ t247).size + t248.size ≤ 9223372036854775807 then (some (((t245 ++ t246) ++ t247) ++ t248)) else (none))) else (none))) else (none)))) else (some (⟨#[]⟩ : ByteArray))) = some r := H
 have A2 := Aside0.mk A20
 clear A20
 by_cases c3 : t244 = true
 ·subst c3
  have H1 : ((spec_l3Fix.f a0_3).bind fun t245 => ((spec_ColName.f k a0_1).bind fun t246 => (if t245.size + t246.size ≤ 9223372036854775807 then ((spec_l3Fix.f a0_2).bind fun t247 => (if (t245 ++ t246).size + t247.size ≤ 9223372036854775807 then ((spec_l1Num.f a0_0).bind fun t248 => (if ((t245 ++ t246) ++ t247).size + t248.size ≤ 9223372036854775807 then (some (((t245 ++ t246) ++ t247) ++ t248)) else (none))) else (none))) else (none)))) = some r := by rw [if_pos rfl] at H; exact H
  clear H
  have H := H1
  clear H1
  replace H := Option.bind_eq_some_iff.mp H
  obtain ⟨t245, A40, H⟩ := H
  replace H : ((spec_ColName.f k a0_1).bind fun t246 => (if t245.size + t246.size ≤ 9223372036854775807 then ((spec_l3Fix.f a0_2).bind fun t247 => (if (t245 ++ t246).size + t247.size ≤ 9223372036854775807 then ((spec_l1Num.f a0_0).bind fun t248 => (if ((t245 ++ t246) ++ t247).size + t248.size ≤ 9223372036854775807 then (some (((t245 ++ t246) ++ t247) ++ t248)) else (none))) else (none))) else (none))) = some r := H
  have A4 := Aside0.mk A40
  clear A40
  replace H := Option.bind_eq_some_iff.mp H
  obtain ⟨t246, A50, H⟩ := H
  replace H : (if t245.size + t246.size ≤ 9223372036854775807 then ((spec_l3Fix.f a0_2).bind fun t247 => (if (t245 ++ t246).size + t247.size ≤ 9223372036854775807 then ((spec_l1Num.f a0_0).bind fun t248 => (if ((t245 ++ t246) ++ t247).size + t248.size ≤ 9223372036854775807 then (some (((t245 ++ t246) ++ t247) ++ t248)) else (none))) else (none))) else (none)) = some r := H
  have A5 := Aside0.mk A50
  clear A50
  by_cases c6 : t245.size + t246.size ≤ 9223372036854775807
  ·rw [if_pos c6] at H
   have c6b0 := eq_true c6
   have c6b1 : decide (t245.size + t246.size ≤ 9223372036854775807) = true := decide_eq_true c6
   try have c6b2 : (9223372036854775807 < t245.size + t246.size) = False := eq_false (Nat.not_lt.2 c6)
   replace H := Option.bind_eq_some_iff.mp H
   obtain ⟨t247, A70, H⟩ := H
   replace H : (if (t245 ++ t246).size + t247.size ≤ 9223372036854775807 then ((spec_l1Num.f a0_0).bind fun t248 => (if ((t245 ++ t246) ++ t247).size + t248.size ≤ 9223372036854775807 then (some (((t245 ++ t246) ++ t247) ++ t248)) else (none))) else (none)) = some r := H
   have A7 := Aside0.mk A70
   clear A70
   by_cases c8 : (t245 ++ t246).size + t247.size ≤ 9223372036854775807
   ·rw [if_pos c8] at H
    have c8b0 := eq_true c8
    have c8b1 : decide ((t245 ++ t246).size + t247.size ≤ 9223372036854775807) = true := decide_eq_true c8
    try have c8b2 : (9223372036854775807 < (t245 ++ t246).size + t247.size) = False := eq_false (Nat.not_lt.2 c8)
    try have c8b28 : (9223372036854775807 < (t245.size + t246.size) + t247.size) = False := eq_false (Nat.not_lt.2 (by have h8_ := c8; simp only [ByteArray.size_append, ByteArray.size_extract, Nat.min_self, Nat.sub_zero] at h8_; exact h8_))
    replace H := Option.bind_eq_some_iff.mp H
    obtain ⟨t248, A90, H⟩ := H
    replace H : (if ((t245 ++ t246) ++ t247).size + t248.size ≤ 9223372036854775807 then (some (((t245 ++ t246) ++ t247) ++ t248)) else (none)) = some r := H
    have A9 := Aside0.mk A90
    clear A90
    by_cases c10 : ((t245 ++ t246) ++ t247).size + t248.size ≤ 9223372036854775807
    ·rw [if_pos c10] at H
     have c10b0 := eq_true c10
     have c10b1 : decide (((t245 ++ t246) ++ t247).size + t248.size ≤ 9223372036854775807) = true := decide_eq_true c10
     try have c10b2 : (9223372036854775807 < ((t245 ++ t246) ++ t247).size + t248.size) = False := eq_false (Nat.not_lt.2 c10)
     try have c10b28 : (9223372036854775807 < ((t245.size + t246.size) + t247.size) + t248.size) = False := eq_false (Nat.not_lt.2 (by have h8_ := c10; simp only [ByteArray.size_append, ByteArray.size_extract, Nat.min_self, Nat.sub_zero] at h8_; exact h8_))
     obtain rfl := Option.some.inj H
     go_enter Tryz.func149, Tryz.ntmps149
     try go_wp2_with (first | ((with_reducible refine z17q (N := 1) rfl ?_); refine z16q ?hg (N := 1) ?hd (cs := #[.int .i64 a0_0, .int .i64 a0_1, .bool a0_2, .bool a0_3]) (t := 47) ?hr ?_; (case hd => rfl); (case hg => rfl); (case hr => first | (go_simp; done) | (go_simp; rfl)); intro gb243 hg w11 hbox hb; have n0_ := Aside0.mk (z6q (ibh HB.out) hb); have n1_ := Aside0.mk (hbox); have n2_ := Aside0.mk ((by rw [hg]; exact (z7q (ibh HB.out)) : w.heap.size ≤ gb243)); have n3_ := Aside0.mk ((by rw [hg]; exact (z7q (ibh HB.out)) : w.heap.size ≤ gb243)); clear HB; have HB := n0_; have BK243 := n1_; have GW243 := n2_; have GE243 := n3_; clear n0_ n1_ n2_ n3_; clear hb hbox hg; obtain ⟨hcz12_0, hcz12_1, hcz12_2, hcz12_3, hfz12_0, hfz12_1, hfz12_2, hfz12_3⟩ := cr4 (w := w11) (g := gb243) BK243.out) | ((with_reducible refine z14q (f := 44) rfl ?_); refine z20q (some 4) rfl rfl Tryz.func44 (by kernel_rfl) rfl #[.agg #[.int .i64 a0_0, .int .i64 a0_1, .bool a0_2, .bool a0_3]] rfl (by (try simp only [map_toArray, map_cons, map_nil]); first | done | rfl | (simp only [length_drop, length_take]; rfl)) ?_; (with_reducible refine (spec_GoodRef.calls a0_0 a0_1 a0_2 a0_3 true _ A2.out).mono ?_); rintro e w13 ⟨rfl, hb⟩; refine ⟨_, rfl, ?_⟩; have n0_ := Aside0.mk (z15q (cy BK243.out) hb); have n1_ := Aside0.mk (z6q (ibh HB.out) hb); clear BK243; clear HB; have BK243 := n0_; have HB := n1_; clear n0_ n1_; (try clear hb); (try clear hb2); (try clear hk); (try clear hi)))
     have n0_ := Aside0.mk (z13q BK243.out)
     have n1_ := Aside0.mk (z4q HB.out)
     clear BK243
     clear HB
     have BK243 := n0_
     have HB := n1_
     clear n0_ n1_
     refine start_ (n := 16) (S := fun w' => w'.cell? ⟨gb243, 0, none⟩ = some (.int .i64 a0_0) ∧ w'.cell? ⟨gb243, 1, none⟩ = some (.int .i64 a0_1) ∧ w'.cell? ⟨gb243, 2, none⟩ = some (.bool a0_2) ∧ w'.cell? ⟨gb243, 3, none⟩ = some (.bool a0_3)) (ds := []) bt4_0 (by kernel_rfl) rfl rfl ⟨(z1q BK243.out 0).trans rfl, (z1q BK243.out 1).trans rfl, (z1q BK243.out 2).trans rfl, (z1q BK243.out 3).trans rfl⟩ (fun hHeld => ?_); refine with_tabW spec_RefText.tab3 spec_RefText.bits3 (fun HT_ HW_ => ?_)
     generalize w13.drew = w14 at BK243 HB hHeld ⊢
     refine pure_ (i := 0) (N := some 6) (v := ?_) (a' := ?_) bt4_1 rfl rfl (any_of HT_.out (by kernel_rfl)) (fun _ _ _ h => h) (Or.inl ⟨by rfl, ?_⟩) ?_ ?_
     rotate_left
     ·intro w'
      go_simp
      with_reducible rfl
     rotate_left
     ·simp only [Act.put, setIfInBounds_toArray, set_cons_zero, set_cons_succ, i64_w, i32_w]
      rfl
     refine pure_ (i := 3) (N := some 9) (v := ?_) (a' := ?_) bt4_2 rfl rfl (any_of HT_.out (by kernel_rfl)) (fun _ _ _ h => h) (Or.inl ⟨by rfl, ?_⟩) ?_ ?_
     rotate_left
     ·intro w'
      go_simp
      with_reducible rfl
     rotate_left
     ·simp only [Act.put, setIfInBounds_toArray, set_cons_zero, set_cons_succ, i64_w, i32_w]
      rfl
     refine pure_ (i := 7) (N := some 13) (v := ?_) (a' := ?_) bt4_3 rfl rfl (any_of HT_.out (by kernel_rfl)) (fun _ _ _ h => h) (Or.inl ⟨by rfl, ?_⟩) ?_ ?_
     rotate_left
     ·intro w'
      go_simp
      with_reducible rfl
     rotate_left
     ·simp only [Act.put, setIfInBounds_toArray, set_cons_zero, set_cons_succ, i64_w, i32_w]
      rfl
     refine pure_ (i := 11) (N := some 17) (v := ?_) (a' := ?_) bt4_4 rfl rfl (any_of HT_.out (by kernel_rfl)) (fun _ _ _ h => h) (Or.inl ⟨by rfl, ?_⟩) ?_ ?_
     rotate_left
     ·intro w'
      go_simp
      with_reducible rfl
     rotate_left
     ·simp only [Act.put, setIfInBounds_toArray, set_cons_zero, set_cons_succ, i64_w, i32_w]
      rfl
     refine take_ (i := 1) (N := some 7) (v := ?_) (a' := ?_) bt4_5 rfl rfl (take_ofW HT_.out HW_.out (by kernel_rfl)) (fun _ _ _ h => h) (Or.inl ⟨by rfl, ?_⟩) hHeld ?_ ?_
     rotate_left
     ·rintro w' ⟨s0, s1, s2, s3⟩
      go_simp
      with_reducible rfl
     rotate_left
     ·simp only [Act.put, setIfInBounds_toArray, set_cons_zero, set_cons_succ, i64_w, i32_w]
      rfl
     refine take_ (i := 4) (N := some 10) (v := ?_) (a' := ?_) bt4_6 rfl rfl (take_ofW HT_.out HW_.out (by kernel_rfl)) (fun _ _ _ h => h) (Or.inl ⟨by rfl, ?_⟩) hHeld ?_ ?_
     rotate_left
     ·rintro w' ⟨s0, s1, s2, s3⟩
      go_simp
      with_reducible rfl
     rotate_left
     ·simp only [Act.put, setIfInBounds_toArray, set_cons_zero, set_cons_succ, i64_w, i32_w]
      rfl
     refine take_ (i := 8) (N := some 14) (v := ?_) (a' := ?_) bt4_7 rfl rfl (take_ofW HT_.out HW_.out (by kernel_rfl)) (fun _ _ _ h => h) (Or.inl ⟨by rfl, ?_⟩) hHeld ?_ ?_
     rotate_left
     ·rintro w' ⟨s0, s1, s2, s3⟩
      go_simp
      with_reducible rfl
     rotate_left
     ·simp only [Act.put, setIfInBounds_toArray, set_cons_zero, set_cons_succ, i64_w, i32_w]
      rfl
     refine take_ (i := 12) (N := some 18) (v := ?_) (a' := ?_) bt4_8 rfl rfl (take_ofW HT_.out HW_.out (by kernel_rfl)) (fun _ _ _ h => h) (Or.inl ⟨by rfl, ?_⟩) hHeld ?_ ?_
     rotate_left
     ·rintro w' ⟨s0, s1, s2, s3⟩
      go_simp
      with_reducible rfl
     rotate_left
     ·simp only [Act.put, setIfInBounds_toArray, set_cons_zero, set_cons_succ, i64_w, i32_w]
      rfl
     refine one_ (i := 2) (N := some 8) bt4_9 rfl rfl (one_of HT_.out (by kernel_rfl)) (by decide) (fun K hK => ?_)
     refine goes_ Tryz.func166 (by kernel_rfl) rfl #[.bool a0_3] (by rfl) rfl rfl (by (try simp only [map_toArray, map_cons, map_nil]); first | done | rfl | (simp only [length_drop, length_take]; rfl)) ?_
     with_reducible refine (spec_l3Fix.calls a0_3 t245 _ A4.out).mono ?_
     rintro e w' ⟨rfl, ⟨nd, rfl⟩⟩
     refine ⟨_, rfl, ?_⟩
     refine hK.out _ _ ⟨(z1q BK243.out 0).trans rfl, (z1q BK243.out 1).trans rfl, (z1q BK243.out 2).trans rfl, (z1q BK243.out 3).trans rfl⟩ (fun hHeld => ?_)
     clear hK K
     refine norm_ (a' := ?_) ?_ ?_
     rotate_left
     ·show Act.put _ (some 8) _ = _
      simp only [Act.put, setIfInBounds_toArray, set_cons_zero, set_cons_succ, i64_w, i32_w]
      rfl
     refine one_ (i := 5) (N := some 11) bt4_10 rfl rfl (one_of HT_.out (by kernel_rfl)) (by decide) (fun K hK => ?_)
     refine goes_ Tryz.func165 (by kernel_rfl) rfl #[.int .i64 a0_1] (by rfl) rfl rfl (by (try simp only [map_toArray, map_cons, map_nil]); first | done | rfl | (simp only [length_drop, length_take]; rfl)) ?_
     with_reducible refine (spec_ColName.calls k a0_1 t246 _ A5.out).mono ?_
     rintro e w15 ⟨rfl, hb⟩
     refine ⟨_, rfl, ?_⟩
     have n0_ := Aside0.mk (z15q (cy BK243.out) hb)
     have n1_ := Aside0.mk (z6q (ibh HB.out) hb)
     clear BK243
     clear HB
     have BK243 := n0_
     have HB := n1_
     clear n0_ n1_
     (try clear hb)
     (try clear hb2)
     (try clear hk)
     (try clear hi)
     refine hK.out _ _ ⟨(z1q BK243.out 0).trans rfl, (z1q BK243.out 1).trans rfl, (z1q BK243.out 2).trans rfl, (z1q BK243.out 3).trans rfl⟩ (fun hHeld => ?_)
     clear hK K
     refine norm_ (a' := ?_) ?_ ?_
     rotate_left
     ·show Act.put _ (some 11) _ = _
      simp only [Act.put, setIfInBounds_toArray, set_cons_zero, set_cons_succ, i64_w, i32_w]
      rfl
     refine pure_ (i := 6) (N := some 12) (v := ?_) (a' := ?_) bt4_11 rfl rfl (any_of HT_.out (by kernel_rfl)) (fun _ _ _ h => h) (Or.inl ⟨by rfl, ?_⟩) ?_ ?_
     rotate_left
     ·intro w'
      go_simp
      with_reducible rfl
     rotate_left
     ·simp only [Act.put, setIfInBounds_toArray, set_cons_zero, set_cons_succ, i64_w, i32_w]
      rfl
     refine one_ (i := 9) (N := some 15) bt4_12 rfl rfl (one_of HT_.out (by kernel_rfl)) (by decide) (fun K hK => ?_)
     refine goes_ Tryz.func166 (by kernel_rfl) rfl #[.bool a0_2] (by rfl) rfl rfl (by (try simp only [map_toArray, map_cons, map_nil]); first | done | rfl | (simp only [length_drop, length_take]; rfl)) ?_
     with_reducible refine (spec_l3Fix.calls a0_2 t247 _ A7.out).mono ?_
     rintro e w' ⟨rfl, ⟨nd, rfl⟩⟩
     refine ⟨_, rfl, ?_⟩
     refine hK.out _ _ ⟨(z1q BK243.out 0).trans rfl, (z1q BK243.out 1).trans rfl, (z1q BK243.out 2).trans rfl, (z1q BK243.out 3).trans rfl⟩ (fun hHeld => ?_)
     clear hK K
     refine norm_ (a' := ?_) ?_ ?_
     rotate_left
     ·show Act.put _ (some 15) _ = _
      simp only [Act.put, setIfInBounds_toArray, set_cons_zero, set_cons_succ, i64_w, i32_w]
      rfl
     refine pure_ (i := 10) (N := some 16) (v := ?_) (a' := ?_) bt4_13 rfl rfl (any_of HT_.out (by kernel_rfl)) (fun _ _ _ h => h) (Or.inl ⟨by rfl, ?_⟩) ?_ ?_
     rotate_left
     ·intro w'
      go_simp
      with_reducible rfl
     rotate_left
     ·simp only [Act.put, setIfInBounds_toArray, set_cons_zero, set_cons_succ, i64_w, i32_w]
      rfl
     refine one_ (i := 13) (N := some 19) bt4_14 rfl rfl (one_of HT_.out (by kernel_rfl)) (by decide) (fun K hK => ?_)
     refine goes_ Tryz.func118 (by kernel_rfl) rfl #[.int .i64 a0_0] (by rfl) rfl rfl (by (try simp only [map_toArray, map_cons, map_nil]); first | done | rfl | (simp only [length_drop, length_take]; rfl)) ?_
     with_reducible refine (spec_l1Num.calls a0_0 t248 _ A9.out).mono ?_
     rintro e w16 ⟨rfl, hb⟩
     refine ⟨_, rfl, ?_⟩
     have n0_ := Aside0.mk (z15q (cy BK243.out) hb)
     have n1_ := Aside0.mk (z6q (ibh HB.out) hb)
     clear BK243
     clear HB
     have BK243 := n0_
     have HB := n1_
     clear n0_ n1_
     (try clear hb)
     (try clear hb2)
     (try clear hk)
     (try clear hi)
     refine hK.out _ _ ⟨(z1q BK243.out 0).trans rfl, (z1q BK243.out 1).trans rfl, (z1q BK243.out 2).trans rfl, (z1q BK243.out 3).trans rfl⟩ (fun hHeld => ?_)
     clear hK K
     refine norm_ (a' := ?_) ?_ ?_
     rotate_left
     ·show Act.put _ (some 19) _ = _
      simp only [Act.put, setIfInBounds_toArray, set_cons_zero, set_cons_succ, i64_w, i32_w]
      rfl
     refine pure_ (i := 14) (N := some 20) (v := ?_) (a' := ?_) bt4_15 rfl rfl (any_of HT_.out (by kernel_rfl)) (fun _ _ _ h => h) (Or.inl ⟨by rfl, ?_⟩) ?_ ?_
     rotate_left
     ·intro w'
      go_simp
      with_reducible rfl
     rotate_left
     ·simp only [Act.put, setIfInBounds_toArray, set_cons_zero, set_cons_succ, i64_w, i32_w]
      rfl
     refine pure_ (i := 15) (N := some 2) (v := ?_) (a' := ?_) bt4_16 rfl rfl (any_of HT_.out (by kernel_rfl)) (fun _ _ _ h => h) (Or.inl ⟨by rfl, ?_⟩) ?_ ?_
     rotate_left
     ·intro w'
      go_simp
      with_reducible rfl
     rotate_left
     ·simp only [Act.put, setIfInBounds_toArray, set_cons_zero, set_cons_succ, i64_w, i32_w]
      rfl
     refine done_ (done_of HT_.out (by kernel_rfl)) ?_
     try go_wp2
     go_ret
     exact ⟨by first | rfl | (simp [errW_none, errW_some] <;> rfl) | (simp [*, errW_none, errW_some] <;> rfl), by repeat (first | (with_reducible first | exact HB.out | apply z2q | apply z3q | apply z4q | refine z8q ?_ GE243.out) | exact HB.out)⟩
    ·rw [if_neg c10] at H
     exact absurd H (by simp)
   ·rw [if_neg c8] at H
    exact absurd H (by simp)
  ·rw [if_neg c6] at H
   exact absurd H (by simp)
 ·replace c3 := Bool.eq_false_iff.mpr c3
  subst c3
  have H1 : (some (⟨#[]⟩ : ByteArray)) = some r := by rw [if_neg (show ¬ (false = true) by decide)] at H; exact H
  clear H
  have H := H1
  clear H1
  obtain rfl := Option.some.inj H
  go_enter Tryz.func149, Tryz.ntmps149
  go_wp2_with (first | ((with_reducible refine z17q (N := 1) rfl ?_); refine z16q ?hg (N := 1) ?hd (cs := #[.int .i64 a0_0, .int .i64 a0_1, .bool a0_2, .bool a0_3]) (t := 47) ?hr ?_; (case hd => rfl); (case hg => rfl); (case hr => first | (go_simp; done) | (go_simp; rfl)); intro gb243 hg w17 hbox hb; have n0_ := Aside0.mk (z6q (ibh HB.out) hb); have n1_ := Aside0.mk (hbox); have n2_ := Aside0.mk ((by rw [hg]; exact (z7q (ibh HB.out)) : w.heap.size ≤ gb243)); have n3_ := Aside0.mk ((by rw [hg]; exact (z7q (ibh HB.out)) : w.heap.size ≤ gb243)); clear HB; have HB := n0_; have BK243 := n1_; have GW243 := n2_; have GE243 := n3_; clear n0_ n1_ n2_ n3_; clear hb hbox hg; obtain ⟨hcz18_0, hcz18_1, hcz18_2, hcz18_3, hfz18_0, hfz18_1, hfz18_2, hfz18_3⟩ := cr4 (w := w17) (g := gb243) BK243.out) | ((with_reducible refine z14q (f := 44) rfl ?_); refine z20q (some 4) rfl rfl Tryz.func44 (by kernel_rfl) rfl #[.agg #[.int .i64 a0_0, .int .i64 a0_1, .bool a0_2, .bool a0_3]] rfl (by (try simp only [map_toArray, map_cons, map_nil]); first | done | rfl | (simp only [length_drop, length_take]; rfl)) ?_; (with_reducible refine (spec_GoodRef.calls a0_0 a0_1 a0_2 a0_3 false _ A2.out).mono ?_); rintro e w19 ⟨rfl, hb⟩; refine ⟨_, rfl, ?_⟩; have n0_ := Aside0.mk (z15q (cy BK243.out) hb); have n1_ := Aside0.mk (z6q (ibh HB.out) hb); clear BK243; clear HB; have BK243 := n0_; have HB := n1_; clear n0_ n1_; (try clear hb); (try clear hb2); (try clear hk); (try clear hi)))
  go_ret
  exact ⟨by first | rfl | (simp [errW_none, errW_some] <;> rfl) | (simp [*, errW_none, errW_some] <;> rfl), by repeat (first | (with_reducible first | exact HB.out | apply z2q | apply z3q | apply z4q | refine z8q ?_ GE243.out) | exact HB.out)⟩



/-! ### spec_ReadRef: function 133 -/

mutual
def spec_ReadRef.j0 : Nat → ByteArray → Int → Bool → Int → Int → Bool → Bool → Option (Int × Int × Bool × Bool × Bool)
 | 0, _, _, _, _, _, _, _ => none
 | k + 1, x0, x5, x17, x251000, x251001, x251002, x251003 => if x17 = true then (spec_ReadRef.j1 k x0 (wrap64 (x5 + 1)) x251000 x251001 x251002 true) else (spec_ReadRef.j1 k x0 x5 x251000 x251001 x251002 x251003)
def spec_ReadRef.j1 : Nat → ByteArray → Int → Int → Int → Bool → Bool → Option (Int × Int × Bool × Bool × Bool)
 | 0, _, _, _, _, _, _ => none
 | k + 1, x0, x5, x251000, x251001, x251002, x251003 => spec_ReadRef.l0 k x0 x5 x5 x251000 x251001 x251002 x251003
def spec_ReadRef.j3 : Nat → ByteArray → Int → Int → Int → Int → Bool → Bool → Option (Int × Int × Bool × Bool × Bool)
 | 0, _, _, _, _, _, _, _ => none
 | k + 1, x0, x5, x6, x251000, x251001, x251002, x251003 => if 0 ≤ x6 then (if x6 ≤ x5 then (if x5 ≤ (x0.size : Int) then ((spec_ColNumber.f k (x0.extract (x6 : Int).toNat (x5 : Int).toNat)).bind fun t251 => (if x5 < (x0.size : Int) then (if 0 ≤ x5 then (spec_ReadRef.j4 k x0 x5 ((bt x0 x5) == 36) x251000 t251 x251002 x251003) else (none)) else (spec_ReadRef.j4 k x0 x5 false x251000 t251 x251002 x251003))) else (none)) else (none)) else (none)
def spec_ReadRef.j4 : Nat → ByteArray → Int → Bool → Int → Int → Bool → Bool → Option (Int × Int × Bool × Bool × Bool)
 | 0, _, _, _, _, _, _, _ => none
 | k + 1, x0, x5, x55, x251000, x251001, x251002, x251003 => if x55 = true then (spec_ReadRef.j5 k x0 (wrap64 (x5 + 1)) x251000 x251001 true x251003) else (spec_ReadRef.j5 k x0 x5 x251000 x251001 x251002 x251003)
def spec_ReadRef.j5 : Nat → ByteArray → Int → Int → Int → Bool → Bool → Option (Int × Int × Bool × Bool × Bool)
 | 0, _, _, _, _, _, _ => none
 | k + 1, x0, x5, x251000, x251001, x251002, x251003 => if 0 ≤ x5 then (if x5 ≤ (x0.size : Int) then ((spec_l2Number.f k (x0.extract (x5 : Int).toNat x0.size)).bind fun t252 => ((spec_GoodRef.f t252 x251001 x251002 x251003).bind fun t253 => (if t253 = true then ((spec_RefText.f k t252 x251001 x251002 x251003).bind fun t254 => (if t254.toList = x0.toList then (some (t252, x251001, x251002, x251003, true)) else (some (0, 0, false, false, false)))) else (some (0, 0, false, false, false))))) else (none)) else (none)
def spec_ReadRef.l0 : Nat → ByteArray → Int → Int → Int → Int → Bool → Bool → Option (Int × Int × Bool × Bool × Bool)
 | 0, _, _, _, _, _, _, _ => none
 | k + 1, x0, x5, x6, x251000, x251001, x251002, x251003 => if x5 < (x0.size : Int) then (if 0 ≤ x5 then (if (bt x0 x5) ≥ 65 then (if (bt x0 x5) ≤ 90 then (spec_ReadRef.l0 k x0 (wrap64 (x5 + 1)) x6 x251000 x251001 x251002 x251003) else (spec_ReadRef.j3 k x0 x5 x6 x251000 x251001 x251002 x251003)) else (spec_ReadRef.j3 k x0 x5 x6 x251000 x251001 x251002 x251003)) else (none)) else (spec_ReadRef.j3 k x0 x5 x6 x251000 x251001 x251002 x251003)
end

def spec_ReadRef.f (k : Nat) (a0 : ByteArray) : Option (Int × Int × Bool × Bool × Bool) := if 0 < (a0.size : Int) then (spec_ReadRef.j0 k a0 0 ((bt a0 0) == 36) 0 0 false false) else (spec_ReadRef.j0 k a0 0 false 0 0 false false)

theorem spec_ReadRef.mono_l : ∀ k, (∀ y0 y1 y2 y3 y4 y5 y6, LeO (spec_ReadRef.j0 k y0 y1 y2 y3 y4 y5 y6) (spec_ReadRef.j0 (k + 1) y0 y1 y2 y3 y4 y5 y6)) ∧ (∀ y0 y1 y2 y3 y4 y5, LeO (spec_ReadRef.j1 k y0 y1 y2 y3 y4 y5) (spec_ReadRef.j1 (k + 1) y0 y1 y2 y3 y4 y5)) ∧ (∀ y0 y1 y2 y3 y4 y5 y6, LeO (spec_ReadRef.j3 k y0 y1 y2 y3 y4 y5 y6) (spec_ReadRef.j3 (k + 1) y0 y1 y2 y3 y4 y5 y6)) ∧ (∀ y0 y1 y2 y3 y4 y5 y6, LeO (spec_ReadRef.j4 k y0 y1 y2 y3 y4 y5 y6) (spec_ReadRef.j4 (k + 1) y0 y1 y2 y3 y4 y5 y6)) ∧ (∀ y0 y1 y2 y3 y4 y5, LeO (spec_ReadRef.j5 k y0 y1 y2 y3 y4 y5) (spec_ReadRef.j5 (k + 1) y0 y1 y2 y3 y4 y5)) ∧ (∀ y0 y1 y2 y3 y4 y5 y6, LeO (spec_ReadRef.l0 k y0 y1 y2 y3 y4 y5 y6) (spec_ReadRef.l0 (k + 1) y0 y1 y2 y3 y4 y5 y6))
 | 0 => ⟨fun _ _ _ _ _ _ _ r h => by simp [spec_ReadRef.j0] at h, fun _ _ _ _ _ _ r h => by simp [spec_ReadRef.j1] at h, fun _ _ _ _ _ _ _ r h => by simp [spec_ReadRef.j3] at h, fun _ _ _ _ _ _ _ r h => by simp [spec_ReadRef.j4] at h, fun _ _ _ _ _ _ r h => by simp [spec_ReadRef.j5] at h, fun _ _ _ _ _ _ _ r h => by simp [spec_ReadRef.l0] at h⟩
 | k + 1 => by
  obtain ⟨ih0, ih1, ih2, ih3, ih4, ih5⟩ := spec_ReadRef.mono_l k
  refine ⟨?_, ?_, ?_, ?_, ?_, ?_⟩
  ·intro y0 y1 y2 y3 y4 y5 y6
   unfold spec_ReadRef.j0
   repeat' first
   | (with_reducible exact ih0 _ _ _ _ _ _ _)
   | (with_reducible exact ih1 _ _ _ _ _ _)
   | (with_reducible exact ih2 _ _ _ _ _ _ _)
   | (with_reducible exact ih3 _ _ _ _ _ _ _)
   | (with_reducible exact ih4 _ _ _ _ _ _)
   | (with_reducible exact ih5 _ _ _ _ _ _ _)
   | (with_reducible exact spec_ColNumber.mono _ _)
   | (with_reducible exact spec_RefText.mono _ _ _ _ _)
   | (with_reducible exact spec_l2Number.mono _ _)
   | (with_reducible exact LeO.refl _)
   | (with_reducible exact LeO.none _)
   | (with_reducible refine LeO.ite ?_ ?_)
   | (with_reducible refine LeO.bind ?_ (fun _ => ?_))
   | exact ih0 _ _ _ _ _ _ _
   | exact ih1 _ _ _ _ _ _
   | exact ih2 _ _ _ _ _ _ _
   | exact ih3 _ _ _ _ _ _ _
   | exact ih4 _ _ _ _ _ _
   | exact ih5 _ _ _ _ _ _ _
   | exact spec_ColNumber.mono _ _
   | exact spec_RefText.mono _ _ _ _ _
   | exact spec_l2Number.mono _ _
   | exact LeO.none _
   | refine LeO.ite ?_ ?_
   | refine LeO.bind ?_ (fun _ => ?_)
  ·intro y0 y1 y2 y3 y4 y5
   unfold spec_ReadRef.j1
   repeat' first
   | (with_reducible exact ih0 _ _ _ _ _ _ _)
   | (with_reducible exact ih1 _ _ _ _ _ _)
   | (with_reducible exact ih2 _ _ _ _ _ _ _)
   | (with_reducible exact ih3 _ _ _ _ _ _ _)
   | (with_reducible exact ih4 _ _ _ _ _ _)
   | (with_reducible exact ih5 _ _ _ _ _ _ _)
   | (with_reducible exact spec_ColNumber.mono _ _)
   | (with_reducible exact spec_RefText.mono _ _ _ _ _)
   | (with_reducible exact spec_l2Number.mono _ _)
   | (with_reducible exact LeO.refl _)
   | (with_reducible exact LeO.none _)
   | (with_reducible refine LeO.ite ?_ ?_)
   | (with_reducible refine LeO.bind ?_ (fun _ => ?_))
   | exact ih0 _ _ _ _ _ _ _
   | exact ih1 _ _ _ _ _ _
   | exact ih2 _ _ _ _ _ _ _
   | exact ih3 _ _ _ _ _ _ _
   | exact ih4 _ _ _ _ _ _
   | exact ih5 _ _ _ _ _ _ _
   | exact spec_ColNumber.mono _ _
   | exact spec_RefText.mono _ _ _ _ _
   | exact spec_l2Number.mono _ _
   | exact LeO.none _
   | refine LeO.ite ?_ ?_
   | refine LeO.bind ?_ (fun _ => ?_)
  ·intro y0 y1 y2 y3 y4 y5 y6
   unfold spec_ReadRef.j3
   repeat' first
   | (with_reducible exact ih0 _ _ _ _ _ _ _)
   | (with_reducible exact ih1 _ _ _ _ _ _)
   | (with_reducible exact ih2 _ _ _ _ _ _ _)
   | (with_reducible exact ih3 _ _ _ _ _ _ _)
   | (with_reducible exact ih4 _ _ _ _ _ _)
   | (with_reducible exact ih5 _ _ _ _ _ _ _)
   | (with_reducible exact spec_ColNumber.mono _ _)
   | (with_reducible exact spec_RefText.mono _ _ _ _ _)
   | (with_reducible exact spec_l2Number.mono _ _)
   | (with_reducible exact LeO.refl _)
   | (with_reducible exact LeO.none _)
   | (with_reducible refine LeO.ite ?_ ?_)
   | (with_reducible refine LeO.bind ?_ (fun _ => ?_))
   | exact ih0 _ _ _ _ _ _ _
   | exact ih1 _ _ _ _ _ _
   | exact ih2 _ _ _ _ _ _ _
   | exact ih3 _ _ _ _ _ _ _
   | exact ih4 _ _ _ _ _ _
   | exact ih5 _ _ _ _ _ _ _
   | exact spec_ColNumber.mono _ _
   | exact spec_RefText.mono _ _ _ _ _
   | exact spec_l2Number.mono _ _
   | exact LeO.none _
   | refine LeO.ite ?_ ?_
   | refine LeO.bind ?_ (fun _ => ?_)
  ·intro y0 y1 y2 y3 y4 y5 y6
   unfold spec_ReadRef.j4
   repeat' first
   | (with_reducible exact ih0 _ _ _ _ _ _ _)
   | (with_reducible exact ih1 _ _ _ _ _ _)
   | (with_reducible exact ih2 _ _ _ _ _ _ _)
   | (with_reducible exact ih3 _ _ _ _ _ _ _)
   | (with_reducible exact ih4 _ _ _ _ _ _)
   | (with_reducible exact ih5 _ _ _ _ _ _ _)
   | (with_reducible exact spec_ColNumber.mono _ _)
   | (with_reducible exact spec_RefText.mono _ _ _ _ _)
   | (with_reducible exact spec_l2Number.mono _ _)
   | (with_reducible exact LeO.refl _)
   | (with_reducible exact LeO.none _)
   | (with_reducible refine LeO.ite ?_ ?_)
   | (with_reducible refine LeO.bind ?_ (fun _ => ?_))
   | exact ih0 _ _ _ _ _ _ _
   | exact ih1 _ _ _ _ _ _
   | exact ih2 _ _ _ _ _ _ _
   | exact ih3 _ _ _ _ _ _ _
   | exact ih4 _ _ _ _ _ _
   | exact ih5 _ _ _ _ _ _ _
   | exact spec_ColNumber.mono _ _
   | exact spec_RefText.mono _ _ _ _ _
   | exact spec_l2Number.mono _ _
   | exact LeO.none _
   | refine LeO.ite ?_ ?_
   | refine LeO.bind ?_ (fun _ => ?_)
  ·intro y0 y1 y2 y3 y4 y5
   unfold spec_ReadRef.j5
   repeat' first
   | (with_reducible exact ih0 _ _ _ _ _ _ _)
   | (with_reducible exact ih1 _ _ _ _ _ _)
   | (with_reducible exact ih2 _ _ _ _ _ _ _)
   | (with_reducible exact ih3 _ _ _ _ _ _ _)
   | (with_reducible exact ih4 _ _ _ _ _ _)
   | (with_reducible exact ih5 _ _ _ _ _ _ _)
   | (with_reducible exact spec_ColNumber.mono _ _)
   | (with_reducible exact spec_RefText.mono _ _ _ _ _)
   | (with_reducible exact spec_l2Number.mono _ _)
   | (with_reducible exact LeO.refl _)
   | (with_reducible exact LeO.none _)
   | (with_reducible refine LeO.ite ?_ ?_)
   | (with_reducible refine LeO.bind ?_ (fun _ => ?_))
   | exact ih0 _ _ _ _ _ _ _
   | exact ih1 _ _ _ _ _ _
   | exact ih2 _ _ _ _ _ _ _
   | exact ih3 _ _ _ _ _ _ _
   | exact ih4 _ _ _ _ _ _
   | exact ih5 _ _ _ _ _ _ _
   | exact spec_ColNumber.mono _ _
   | exact spec_RefText.mono _ _ _ _ _
   | exact spec_l2Number.mono _ _
   | exact LeO.none _
   | refine LeO.ite ?_ ?_
   | refine LeO.bind ?_ (fun _ => ?_)
  ·intro y0 y1 y2 y3 y4 y5 y6
   unfold spec_ReadRef.l0
   repeat' first
   | (with_reducible exact ih0 _ _ _ _ _ _ _)
   | (with_reducible exact ih1 _ _ _ _ _ _)
   | (with_reducible exact ih2 _ _ _ _ _ _ _)
   | (with_reducible exact ih3 _ _ _ _ _ _ _)
   | (with_reducible exact ih4 _ _ _ _ _ _)
   | (with_reducible exact ih5 _ _ _ _ _ _ _)
   | (with_reducible exact spec_ColNumber.mono _ _)
   | (with_reducible exact spec_RefText.mono _ _ _ _ _)
   | (with_reducible exact spec_l2Number.mono _ _)
   | (with_reducible exact LeO.refl _)
   | (with_reducible exact LeO.none _)
   | (with_reducible refine LeO.ite ?_ ?_)
   | (with_reducible refine LeO.bind ?_ (fun _ => ?_))
   | exact ih0 _ _ _ _ _ _ _
   | exact ih1 _ _ _ _ _ _
   | exact ih2 _ _ _ _ _ _ _
   | exact ih3 _ _ _ _ _ _ _
   | exact ih4 _ _ _ _ _ _
   | exact ih5 _ _ _ _ _ _ _
   | exact spec_ColNumber.mono _ _
   | exact spec_RefText.mono _ _ _ _ _
   | exact spec_l2Number.mono _ _
   | exact LeO.none _
   | refine LeO.ite ?_ ?_
   | refine LeO.bind ?_ (fun _ => ?_)

theorem spec_ReadRef.mono : ∀ a0 k, LeO (spec_ReadRef.f k a0) (spec_ReadRef.f (k + 1) a0) := by
 intro a0 k
 obtain ⟨ih0, ih1, ih2, ih3, ih4, ih5⟩ := spec_ReadRef.mono_l k
 unfold spec_ReadRef.f
 repeat' first
   | (with_reducible exact ih0 _ _ _ _ _ _ _)
   | (with_reducible exact ih1 _ _ _ _ _ _)
   | (with_reducible exact ih2 _ _ _ _ _ _ _)
   | (with_reducible exact ih3 _ _ _ _ _ _ _)
   | (with_reducible exact ih4 _ _ _ _ _ _)
   | (with_reducible exact ih5 _ _ _ _ _ _ _)
   | (with_reducible exact spec_ColNumber.mono _ _)
   | (with_reducible exact spec_RefText.mono _ _ _ _ _)
   | (with_reducible exact spec_l2Number.mono _ _)
   | (with_reducible exact LeO.refl _)
   | (with_reducible exact LeO.none _)
   | (with_reducible refine LeO.ite ?_ ?_)
   | (with_reducible refine LeO.bind ?_ (fun _ => ?_))
   | exact ih0 _ _ _ _ _ _ _
   | exact ih1 _ _ _ _ _ _
   | exact ih2 _ _ _ _ _ _ _
   | exact ih3 _ _ _ _ _ _ _
   | exact ih4 _ _ _ _ _ _
   | exact ih5 _ _ _ _ _ _ _
   | exact spec_ColNumber.mono _ _
   | exact spec_RefText.mono _ _ _ _ _
   | exact spec_l2Number.mono _ _
   | exact LeO.none _
   | refine LeO.ite ?_ ?_
   | refine LeO.bind ?_ (fun _ => ?_)

end Go.Proofs.YtegdpgpbdcediaaGreatDoor.PFnExactGoodFormula
