/- Functions of the program as Lean functions, and proofs that the Go code comes to their answers: for the law FnExactWorkdays; made out of the print by a program of mine (doorprint.py), with walks of my own in the place of some functions. No conditions but each theorem's own. -/
import Derived.Test.YtaclplimbnihkaaMFnExactWorkdaysa0
import Derived.IntWalk
import Derived.Maps.OwnSet
import Derived.Lib.Hide
namespace Go.Proofs.Ytaclplimbnihkaa.PFnExactWorkdays
open Go.RowKit Go.Proofs.YtaclplimbnihkaaW.PrintWords Go.Proofs.YtaclplimbnihkaaW.PrintLast Go.Proofs.YtaclplimbnihkaaW.PrintMore
attribute [local go_sem] max2_int min2_int max_two min_two max_three min_three max_four min_four   -- for this text's walks alone
set_option linter.unusedVariables false
set_option linter.unusedSimpArgs false

/-! ### spec_l2Day: function 67 -/
def spec_l2Day.f (a0 : Int) : Option (Bool) := if a0 ≥ (-1000000) then (some (decide (a0 ≤ 1000000))) else (some false)
set_option maxHeartbeats 8000000 in
set_option maxRecDepth 100000 in
theorem spec_l2Day.calls (a0 : Int) (r : Bool) (w : World) (h : spec_l2Day.f a0 = some r) :
    Calls Try.prog 67 #[.int .i64 a0] w fun e w' => e = .returned (.bool r) ∧ Drawn0 w w' := by
  have H : (if a0 ≥ (-1000000) then (some (decide (a0 ≤ 1000000))) else (some false)) = some r := h
  clear h
  by_cases c2 : a0 ≥ (-1000000)
  · rw [if_pos c2] at H
    have c2b0 : decide ((-1000000) ≤ a0) = true := decide_eq_true c2
    clear c2
    obtain rfl := Option.some.inj H
    go_enter Try.func67, Try.ntmps67
    go_wp2
    go_ret
    exact ⟨by first | rfl | (simp; done) | (simp [*]; done), by repeat (first | exact Drawn0.refl _ | apply Drawn0.step)⟩
  · rw [if_neg c2] at H
    have c2b0 : decide ((-1000000) ≤ a0) = false := decide_eq_false c2
    clear c2
    obtain rfl := Option.some.inj H
    go_enter Try.func67, Try.ntmps67
    go_wp2
    go_ret
    exact ⟨by first | rfl | (simp; done) | (simp [*]; done), by repeat (first | exact Drawn0.refl _ | apply Drawn0.step)⟩

/-! ### spec_l2Floor: function 125 -/
def spec_l2Floor.f (a0 : Int) (a1 : Int) : Option (Int) := if a1 = 0 then (none) else (if (Int.tmod a0 a1) = 0 then (some (wrap64 (Int.tdiv a0 a1))) else (if ((decide (a0 < 0)) != (decide (a1 < 0))) = true then (some (wrap64 ((wrap64 (Int.tdiv a0 a1)) - 1))) else (some (wrap64 (Int.tdiv a0 a1)))))
set_option maxHeartbeats 8000000 in
set_option maxRecDepth 100000 in
theorem spec_l2Floor.calls (a0 : Int) (a1 : Int) (r : Int) (w : World) (h : spec_l2Floor.f a0 a1 = some r) :
    Calls Try.prog 125 #[.int .i64 a0, .int .i64 a1] w fun e w' => e = .returned (.int .i64 r) ∧ Drawn0 w w' := by
  have H : (if a1 = 0 then (none) else (if (Int.tmod a0 a1) = 0 then (some (wrap64 (Int.tdiv a0 a1))) else (if ((decide (a0 < 0)) != (decide (a1 < 0))) = true then (some (wrap64 ((wrap64 (Int.tdiv a0 a1)) - 1))) else (some (wrap64 (Int.tdiv a0 a1)))))) = some r := h
  clear h
  by_cases c3 : a1 = 0
  · rw [if_pos c3] at H
    exact absurd H (by simp)
  · rw [if_neg c3] at H
    have c3b0 : (a1 == 0) = false := beq_eq_false_iff_ne.mpr c3
    have c3b1 : (a1 != 0) = true := bne_iff_ne.mpr c3
    by_cases c4 : (Int.tmod a0 a1) = 0
    · rw [if_pos c4] at H
      have c4b0 : ((Int.tmod a0 a1) == 0) = true := beq_iff_eq.mpr c4
      have c4b1 : ((Int.tmod a0 a1) != 0) = false := bne_eq_false_iff_eq.mpr c4
      clear c4
      obtain rfl := Option.some.inj H
      go_enter Try.func125, Try.ntmps125
      go_wp2
      go_ret
      exact ⟨by first | rfl | (simp; done) | (simp [*]; done), by repeat (first | exact Drawn0.refl _ | apply Drawn0.step)⟩
    · rw [if_neg c4] at H
      have c4b0 : ((Int.tmod a0 a1) == 0) = false := beq_eq_false_iff_ne.mpr c4
      have c4b1 : ((Int.tmod a0 a1) != 0) = true := bne_iff_ne.mpr c4
      by_cases c5 : ((decide (a0 < 0)) != (decide (a1 < 0))) = true
      · rw [if_pos c5] at H
        have c5b0 : ((decide (a0 < 0)) != (decide (a1 < 0))) = true := c5
        (try (have c5b1 : decide ((decide (a0 < 0)) = (decide (a1 < 0))) = false := by simpa using c5))
        (try (have c5b2 : ((decide (a0 < 0)) == (decide (a1 < 0))) = false := by simpa using c5))
        (try (have c5b3 : ¬ ((decide (a0 < 0)) = (decide (a1 < 0))) := by simpa using c5))
        clear c5
        obtain rfl := Option.some.inj H
        go_enter Try.func125, Try.ntmps125
        go_wp2
        go_ret
        exact ⟨by first | rfl | (simp; done) | (simp [*]; done), by repeat (first | exact Drawn0.refl _ | apply Drawn0.step)⟩
      · rw [if_neg c5] at H
        have c5b0 : ((decide (a0 < 0)) != (decide (a1 < 0))) = false := by simpa using c5
        (try (have c5b1 : decide ((decide (a0 < 0)) = (decide (a1 < 0))) = true := by simpa using c5))
        (try (have c5b2 : ((decide (a0 < 0)) == (decide (a1 < 0))) = true := by simpa using c5))
        clear c5
        obtain rfl := Option.some.inj H
        go_enter Try.func125, Try.ntmps125
        go_wp2
        go_ret
        exact ⟨by first | rfl | (simp; done) | (simp [*]; done), by repeat (first | exact Drawn0.refl _ | apply Drawn0.step)⟩

/-! ### spec_l2Mod: function 68 -/
def spec_l2Mod.f (a0 : Int) (a1 : Int) : Option (Int) := (spec_l2Floor.f a0 a1).bind fun t101 => (some (wrap64 (a0 - (wrap64 (a1 * t101)))))
set_option maxHeartbeats 8000000 in
set_option maxRecDepth 100000 in
theorem spec_l2Mod.calls (a0 : Int) (a1 : Int) (r : Int) (w : World) (h : spec_l2Mod.f a0 a1 = some r) :
    Calls Try.prog 68 #[.int .i64 a0, .int .i64 a1] w fun e w' => e = .returned (.int .i64 r) ∧ Drawn0 w w' := by
  have H : ((spec_l2Floor.f a0 a1).bind fun t101 => (some (wrap64 (a0 - (wrap64 (a1 * t101)))))) = some r := h
  clear h
  replace H := Option.bind_eq_some_iff.mp H
  obtain ⟨t101, A30, H⟩ := H
  replace H : (some (wrap64 (a0 - (wrap64 (a1 * t101))))) = some r := H
  have A3 := Aside0.mk A30
  clear A30
  obtain rfl := Option.some.inj H
  go_enter Try.func68, Try.ntmps68
  go_wp2_with (first | ((with_reducible refine gate_callee (f := 125) rfl ?_); refine goesL_ (some 9) rfl rfl Try.func125 (by kernel_rfl) rfl #[.int .i64 a0, .int .i64 a1] rfl (by (try simp only [List.map_toArray, List.map_cons, List.map_nil]); first | done | rfl | (simp only [List.length_drop, List.length_take]; rfl)) ?_; (with_reducible refine (spec_l2Floor.calls a0 a1 t101 _ A3.out).mono ?_); rintro e w' ⟨rfl, ⟨nd, rfl⟩⟩; refine ⟨_, rfl, ?_⟩))
  go_ret
  exact ⟨by first | rfl | (simp; done) | (simp [*]; done), by repeat (first | exact Drawn0.refl _ | apply Drawn0.step)⟩

/-! ### spec_Workdays: function 19 -/
/-! plain facts on whole numbers -/
theorem wrap_id {x : Int} (h1 : -9223372036854775808 ≤ x) (h2 : x ≤ 9223372036854775807) : wrap64 x = x := by
  unfold wrap64; omega
theorem td_pos {a b : Int} (h : 0 ≤ a) : a.tdiv b = a / b := Int.tdiv_eq_ediv_of_nonneg h
theorem td_neg {a b : Int} (h : a ≤ 0) : a.tdiv b = -((-a) / b) := by
  rw [← Int.tdiv_eq_ediv_of_nonneg (by omega : 0 ≤ -a), Int.neg_tdiv]; omega
theorem tm_pos {a b : Int} (h : 0 ≤ a) : a.tmod b = a % b := Int.tmod_eq_emod_of_nonneg h
theorem tm_neg {a b : Int} (h : a ≤ 0) : a.tmod b = -((-a) % b) := by
  rw [← Int.tmod_eq_emod_of_nonneg (by omega : 0 ≤ -a), Int.neg_tmod]; omega
theorem tm_zero (a b : Int) : a.tmod b = 0 ↔ a % b = 0 := by
  rw [← Int.dvd_iff_tmod_eq_zero, ← Int.dvd_iff_emod_eq_zero]
theorem ediv_is {a b q r : Int} (hb : 0 < b) (h : a = b * q + r) (h0 : 0 ≤ r) (h1 : r < b) : a / b = q := by
  rw [h, Int.add_comm, Int.add_mul_ediv_left _ _ (by omega), Int.ediv_eq_zero_of_lt h0 h1]; omega
theorem ediv_neg_of {a b : Int} (hb : 0 < b) (h : a.tmod b = 0) : a.tdiv b = a / b := by
  have e := Int.mul_tdiv_add_tmod a b
  rw [h] at e
  exact (ediv_is hb (q := a.tdiv b) (r := 0) (by omega) (by omega) hb).symm
theorem ediv_floor {a b : Int} (hb : 0 < b) (ha : a < 0) (h : a.tmod b ≠ 0) : a.tdiv b - 1 = a / b := by
  have e := Int.mul_tdiv_add_tmod a b
  have hm := tm_neg (a := a) (b := b) (by omega)
  have h0 := Int.emod_nonneg (-a) (by omega : b ≠ 0)
  have h1 := Int.emod_lt_of_pos (-a) hb
  refine (ediv_is hb (q := a.tdiv b - 1) (r := a.tmod b + b) ?_ (by omega) (by omega)).symm
  rw [Int.mul_sub]; omega
/-- The floor, as both programs reckon it. -/
theorem floor_is {a b : Int} (hb : 0 < b) (h1 : -4611686018427387904 ≤ a) (h2 : a ≤ 4611686018427387904) :
    (if b = 0 then (none) else (if (Int.tmod a b) = 0 then (some (wrap64 (Int.tdiv a b))) else (if ((decide (a < 0)) != (decide (b < 0))) = true then (some (wrap64 ((wrap64 (Int.tdiv a b)) - 1))) else (some (wrap64 (Int.tdiv a b)))))) = some (a / b) := by
  have hle : a / b ≤ 4611686018427387904 := by
    by_cases h : 0 ≤ a
    · exact Int.le_trans (Int.ediv_le_self b h) h2
    · have := Int.ediv_neg_of_neg_of_pos (by omega : a < 0) hb; omega
  have hge : -4611686018427387904 ≤ a / b := by
    by_cases h : 0 ≤ a
    · have := Int.ediv_nonneg h (by omega : 0 ≤ b); omega
    · exact Int.le_ediv_of_mul_le hb (by have : -4611686018427387904 * b ≤ -4611686018427387904 * 1 := by omega
                                         omega)
  rw [if_neg (by omega : ¬ b = 0)]
  by_cases hm : Int.tmod a b = 0
  · rw [if_pos hm, ediv_neg_of hb hm, wrap_id (by omega) (by omega)]
  · rw [if_neg hm]
    by_cases ha : a < 0
    · have e := ediv_floor hb ha hm
      rw [if_pos (by simp [ha]; omega), wrap_id (x := Int.tdiv a b) (by omega) (by omega), e, wrap_id (by omega) (by omega)]
    · rw [if_neg (by simp [ha]; omega), td_pos (by omega), wrap_id (by omega) (by omega)]

/-! workdays: what both programs reckon -/
def dayB (d : Int) : Bool := decide (-1000000 ≤ d ∧ d ≤ 1000000)
def wuV (d : Int) : Int := (d + 7000005) / 7 * 5 + (if (d + 7000005) % 7 < 5 then (d + 7000005) % 7 else 5)
/-- How many of the first j free days count. -/
def freeN (lo hi : Int) (l : List Int) : Nat → Int
  | 0 => 0
  | j + 1 => freeN lo hi l j + (if lo ≤ rd l j ∧ rd l j ≤ hi ∧ rd l j ∉ l.take j ∧ (rd l j + 5) % 7 < 5 then 1 else 0)
theorem freeN_le (lo hi : Int) (l : List Int) : ∀ j : Nat, 0 ≤ freeN lo hi l j ∧ freeN lo hi l j ≤ j
  | 0 => ⟨Int.le_refl _, Int.le_refl _⟩
  | j + 1 => by
    have := freeN_le lo hi l j
    unfold freeN
    split <;> omega
theorem take_rd (l : List Int) (j : Nat) (h : j < l.length) : l.take (j + 1) = l.take j ++ [rd l j] := by
  rw [List.take_add_one]
  simp [rd, h]
theorem wuV_le (d : Int) (h : -1000001 ≤ d ∧ d ≤ 1000001) : 4285000 ≤ wuV d ∧ wuV d ≤ 5715000 := by
  unfold wuV; split <;> omega
def coreW (lo hi : Int) (l : List Int) : Int := wuV (hi + 1) - wuV lo - freeN lo hi l l.length

theorem specDay_is (d : Int) : spec_l2Day.f d = some (dayB d) := by
  unfold spec_l2Day.f dayB
  by_cases h : d ≥ -1000000
  · rw [if_pos h]; congr 1; rw [decide_eq_decide]; omega
  · rw [if_neg h]; congr 1; symm; rw [decide_eq_false_iff_not]; omega
theorem specMod_is (a b : Int) (hb : 0 < b) (hb2 : b ≤ 1000) (h1 : -1000000000 ≤ a) (h2 : a ≤ 1000000000) : spec_l2Mod.f a b = some (a % b) := by
  unfold spec_l2Mod.f spec_l2Floor.f
  rw [floor_is hb (by omega) (by omega)]
  simp only [Option.bind_some]
  have e := Int.mul_ediv_add_emod a b
  have h0 := Int.emod_nonneg a (by omega : b ≠ 0)
  have h1 := Int.emod_lt_of_pos a hb
  rw [wrap_id (x := b * (a / b)) (by omega) (by omega), wrap_id (by omega) (by omega)]
  congr 1; omega
theorem wuV_weeks (d k : Int) : wuV (d + 7 * k) = wuV d + 5 * k := by
  unfold wuV
  have e1 : (d + 7 * k + 7000005) / 7 = (d + 7000005) / 7 + k := by omega
  have e2 : (d + 7 * k + 7000005) % 7 = (d + 7000005) % 7 := by omega
  rw [e1, e2]; split <;> omega
theorem wuV_step (d : Int) : wuV (d + 1) = wuV d + (if (d + 5) % 7 < 5 then 1 else 0) := by
  unfold wuV
  split <;> split <;> split <;> omega
theorem dayB_iff {d : Int} : dayB d = true ↔ (-1000000 ≤ d ∧ d ≤ 1000000) := by unfold dayB; exact decide_eq_true_iff
theorem coreW_le (a b : Int) (l : List Int) (ha : -1000001 ≤ a ∧ a ≤ 1000001) (hb : -1000001 ≤ b + 1 ∧ b + 1 ≤ 1000001) (hl : l.length ≤ 1000) : -3000000 ≤ coreW a b l ∧ coreW a b l ≤ 3000000 := by
  have := wuV_le a ha; have := wuV_le (b + 1) hb; have := freeN_le a b l l.length
  unfold coreW; omega
def implWorkV (a b : Int) (l : List Int) : Int := if dayB a && dayB b && decide (l.length ≤ 1000) then (if b < a then -(coreW b a l) else coreW a b l) else 0
set_option maxHeartbeats 8000000 in
set_option maxRecDepth 100000 in
theorem specWork_up (a b : Int) (A2 : Option Addr) (c2 : Nat) (l : List Int) (w : World) (hr : Kd.C (Kd.int .i64) w A2 l.length l) (hc : l.length ≤ c2)
    (hl : l.length ≤ 1000) (ha : dayB a = true) (hb : dayB b = true) (hab : a ≤ b) :
    Calls Try.prog 19 #[.int .i64 a, .int .i64 b, .slice A2 l.length c2] w fun e w' => e = .returned (.int .i64 (coreW a b l)) ∧ Drawn0 w w' := by
  have ha' := dayB_iff.1 ha
  have hb' := dayB_iff.1 hb
  have hga := specDay_is a
  have hgb := specDay_is b
  rw [ha] at hga; rw [hb] at hgb
  have hcw := coreW_le a b l (by omega) (by omega) hl
  have blen : decide ((l.length : Int) > 1000) = false := decide_eq_false (by omega)
  have bba : decide (b < a) = false := decide_eq_false (by omega)
  have hcell := fun (j : Nat) (hj : j < l.length) => Kd.at_int hr (j : Int) (by omega) (by omega)
  have e1 : IntKind.i64.wrap (b - a) = b - a := IntWalk.i64_in _ (by omega)
  have e2 : IntKind.i64.wrap (b - a + 1) = b - a + 1 := IntWalk.i64_in _ (by omega)
  obtain ⟨K, hK⟩ : ∃ K, K = (b - a + 1) / 7 := ⟨_, rfl⟩
  have e3 : IntKind.i64.wrap ((b - a + 1).tdiv 7) = K := by rw [td_pos (by omega), ← hK]; exact IntWalk.i64_in _ (by omega)
  have e4 : IntKind.i64.wrap (5 * K) = 5 * K := IntWalk.i64_in _ (by omega)
  have e5 : IntKind.i64.wrap (7 * K) = 7 * K := IntWalk.i64_in _ (by omega)
  have e6 : IntKind.i64.wrap (a + 7 * K) = a + 7 * K := IntWalk.i64_in _ (by omega)
  have hwk := wuV_weeks a K
  have l1 := wuV_le a (by omega)
  have l2 := wuV_le (b + 1) (by omega)
  have emul : wrap64 (coreW a b l) = coreW a b l := wrap_id (by omega) (by omega)
  have EM := Lib.hid emul; clear emul
  have HGA := Lib.hid hga; have HGB := Lib.hid hgb; have HCL := Lib.hid hcell; have HA := Lib.hid ha'; have HB2 := Lib.hid hb'; have HL := Lib.hid hl; have HC := Lib.hid hc; have L1 := Lib.hid l1; have L2 := Lib.hid l2; have HWKS := Lib.hid hwk; have HK := Lib.hid hK; have HAB := Lib.hid hab
  clear hga hgb hcell ha hb ha' hb' hl hr hc l1 l2 hab hcw hwk hK
  go_enter Try.func19, Try.ntmps19
  go_wp2_with fail
  refine (spec_l2Day.calls _ _ _ HGA.out).mono ?_; rintro e w1 ⟨rfl, hd⟩; obtain ⟨q1, rfl⟩ := hd.out; clear hd
  go_wp2_with fail
  refine (spec_l2Day.calls _ _ _ HGB.out).mono ?_; rintro e w1 ⟨rfl, hd⟩; obtain ⟨q2, rfl⟩ := hd.out; clear hd
  go_wp2_with fail
  go_loopw [11, 10] (fun i n w' => ∃ (d : Int) (q : Nat), a ≤ d ∧ d ≤ b + 1 ∧ i = .int .i64 d ∧ n = .int .i64 (wuV d - wuV a) ∧ w' = w.drewN q) (fun i _ _ => (b + 1 - intOf i).toNat)
  case atStart => exact ⟨a + 7 * K, q1 + q2, by have := HK.out; have := HAB.out; omega, by have := HK.out; have := HAB.out; omega, rfl, by rw [HWKS.out]; congr 1; omega, by simp⟩
  case round =>
    obtain ⟨d, q, hd1, hd2, rfl, rfl, rfl⟩ := hrel
    by_cases hlt : d ≤ b
    · have g1 : decide (d ≤ b) = true := decide_eq_true hlt
      have g2 : IntKind.i64.wrap (d + 5) = d + 5 := IntWalk.i64_in _ (by have := HA.out; have := HB2.out; omega)
      have g3 : IntKind.i64.wrap (d + 1) = d + 1 := IntWalk.i64_in _ (by have := HA.out; have := HB2.out; omega)
      have hm := specMod_is (d + 5) 7 (by omega) (by omega) (by have := HA.out; have := HB2.out; omega) (by have := HA.out; have := HB2.out; omega)
      have hs := wuV_step d
      have hld := wuV_le d (by have := HA.out; have := HB2.out; omega)
      have HM := Lib.hid hm; have HD1 := Lib.hid hd1; have HLT := Lib.hid hlt; have HLD := Lib.hid hld; clear hm hd1 hd2 hlt hld
      by_cases h4 : (d + 5) % 7 < 5
      · have b4 : decide ((d + 5) % 7 < 5) = true := decide_eq_true h4
        rw [if_pos h4] at hs
        have g4 : IntKind.i64.wrap (wuV d - wuV a + 1) = wuV (d + 1) - wuV a := by rw [IntWalk.i64_in _ (by have := HLD.out; have := L1.out; omega), hs]; omega
        have HS := Lib.hid hs; clear hs h4
        go_wp2_with fail
        refine (spec_l2Mod.calls _ _ _ _ HM.out).mono ?_; rintro e w2 ⟨rfl, hd⟩; obtain ⟨q3, rfl⟩ := hd.out; clear hd
        go_wp2_with fail
        go_roundw
        case rel => exact ⟨d + 1, q + q3, by have := HD1.out; omega, by have := HLT.out; omega, rfl, rfl, by simp⟩
        case measure => simp [intOf]; have := HLT.out; omega
      · have b4 : decide ((d + 5) % 7 < 5) = false := decide_eq_false h4
        rw [if_neg h4, Int.add_zero] at hs
        have HS := Lib.hid hs; clear hs h4
        go_wp2_with fail
        refine (spec_l2Mod.calls _ _ _ _ HM.out).mono ?_; rintro e w2 ⟨rfl, hd⟩; obtain ⟨q3, rfl⟩ := hd.out; clear hd
        go_wp2_with fail
        go_roundw
        case rel => exact ⟨d + 1, q + q3, by have := HD1.out; omega, by have := HLT.out; omega, rfl, by rw [HS.out], by simp⟩
        case measure => simp [intOf]; have := HLT.out; omega
    · obtain rfl : d = b + 1 := by omega
      have g1 : decide (b + 1 ≤ b) = false := decide_eq_false (by omega)
      clear hd1 hd2 hlt
      go_wp2_with fail
      go_loopw [60, 10] (fun i n w' => ∃ (j q : Nat), j ≤ l.length ∧ i = .int .i64 j ∧ n = .int .i64 (wuV (b + 1) - wuV a - freeN a b l j) ∧ w' = w.drewN q) (fun i _ _ => l.length - (intOf i).toNat)
      case atStart => exact ⟨0, q, Nat.zero_le _, rfl, by simp [freeN], rfl⟩
      case round =>
        obtain ⟨j, q, hj, rfl, rfl, rfl⟩ := hrel
        by_cases hlt : j < l.length
        · obtain ⟨ad, e, hcell⟩ := HCL.out j hlt
          cases e
          rw [Int.toNat_natCast] at hcell
          have hfl := freeN_le a b l j
          have hfs : freeN a b l (j + 1) = freeN a b l j + (if a ≤ rd l j ∧ rd l j ≤ b ∧ rd l j ∉ l.take j ∧ (rd l j + 5) % 7 < 5 then 1 else 0) := rfl
          have wj0 : (0 : Int) ≤ (j : Int) := Int.natCast_nonneg _
          have wj1 : (j : Int) < (l.length : Int) := by omega
          have wj2 : IntKind.i64.wrap ((j : Int) + 1) = (j : Int) + 1 := IntWalk.i64_in _ (by have := HL.out; omega)
          have wj3 : decide ((j : Int) < (l.length : Int)) = true := decide_eq_true wj1
          have wj4 : (j : Int) ≤ (c2 : Int) := by have := HC.out; omega
          have wj5 : (j : Int).toNat = j := Int.toNat_natCast _
          generalize hX : rd l (j : Int) = X at *
          have HFL := Lib.hid hfl; have HXX := Lib.hid hX; have HLT := Lib.hid hlt
          have HFS := Lib.hid hfs
          clear hfl hX hfs hlt hj
          go_wp2_with fail
          go_loopw [69, 14] (fun i n w' => ∃ (m q9 : Nat), m ≤ j ∧ i = .int .i64 m ∧ n = .bool (decide (X ∈ l.take m)) ∧ w' = w.drewN q9) (fun i _ _ => j - (intOf i).toNat)
          case atStart => exact ⟨0, q, Nat.zero_le _, rfl, by simp, rfl⟩
          case round =>
            obtain ⟨m, q9, hm, rfl, rfl, rfl⟩ := hrel
            by_cases hmlt : m < j
            · obtain ⟨ad2, e, hcell2⟩ := HCL.out m (by have := HLT.out; omega)
              cases e
              rw [Int.toNat_natCast] at hcell2
              have htk := take_rd l m (by have := HLT.out; omega)
              have v0 : (0 : Int) ≤ (m : Int) := Int.natCast_nonneg _
              have v1 : (m : Int) < (j : Int) := by omega
              have v2 : IntKind.i64.wrap ((m : Int) + 1) = (m : Int) + 1 := IntWalk.i64_in _ (by have := HL.out; have := HLT.out; omega)
              have v3 : decide ((m : Int) < (j : Int)) = true := decide_eq_true v1
              generalize hY : rd l (m : Int) = Y at *
              have HTK := Lib.hid htk; have HMLT := Lib.hid hmlt; clear htk hY hmlt hm
              by_cases hin : X ∈ l.take m
              · have i1 : decide (X ∈ l.take m) = true := decide_eq_true hin
                have i2 : decide (X ∈ l.take (m + 1)) = true := decide_eq_true (by rw [HTK.out]; simp [hin])
                rw [i1]
                have I2 := Lib.hid i2; clear hin i1 i2
                go_wp2_with fail
                go_roundw
                case rel => exact ⟨m + 1, q9, by have := HMLT.out; omega, rfl, by rw [I2.out], rfl⟩
                case measure => simp [intOf]; have := HMLT.out; omega
              · have i1 : decide (X ∈ l.take m) = false := decide_eq_false hin
                have i2 : decide (X ∈ l.take (m + 1)) = (Y == X) := by
                  rw [HTK.out]
                  by_cases e : Y = X
                  · subst e; simp
                  · rw [beq_eq_false_iff_ne.2 e]; simp [hin]; exact fun h => e h.symm
                rw [i1]
                have I2 := Lib.hid i2; clear hin i1 i2
                go_wp2_with fail
                go_roundw
                case rel => exact ⟨m + 1, q9, by have := HMLT.out; omega, rfl, by rw [I2.out], rfl⟩
                case measure => simp [intOf]; have := HMLT.out; omega
            · obtain rfl : m = j := by omega
              have v3 : decide ((m : Int) < (m : Int)) = false := decide_eq_false (by omega)
              clear hmlt hm
              by_cases h3 : X ∈ l.take m
              · have b3 : decide (X ∈ l.take m) = true := decide_eq_true h3
                have hfs := HFS.out
                rw [if_neg (fun h => h.2.2.1 h3), Int.add_zero] at hfs
                rw [b3]
                have HF := Lib.hid hfs; clear hfs b3 h3
                go_wp2_with fail
                go_roundw
                case rel => exact ⟨m + 1, q9, by have := HLT.out; omega, rfl, by rw [HF.out], rfl⟩
                case measure => simp [intOf]; have := HLT.out; omega
              · have b3 : decide (X ∈ l.take m) = false := decide_eq_false h3
                rw [b3]
                by_cases h1 : X ≥ a
                · have b1 : decide (X ≥ a) = true := decide_eq_true h1
                  by_cases h2 : X ≤ b
                  · have b2 : decide (X ≤ b) = true := decide_eq_true h2
                    have hmx := specMod_is (X + 5) 7 (by omega) (by omega) (by have := HA.out; have := HB2.out; omega) (by have := HA.out; have := HB2.out; omega)
                    have g2 : IntKind.i64.wrap (X + 5) = X + 5 := IntWalk.i64_in _ (by have := HA.out; have := HB2.out; omega)
                    have HMX := Lib.hid hmx; clear hmx
                    have hfs := HFS.out
                    by_cases h4 : (X + 5) % 7 < 5
                    · have b4 : decide ((X + 5) % 7 < 5) = true := decide_eq_true h4
                      rw [if_pos ⟨h1, h2, h3, h4⟩] at hfs
                      have wn : IntKind.i64.wrap (wuV (b + 1) - wuV a - freeN a b l m - 1) = wuV (b + 1) - wuV a - freeN a b l (m + 1) := by rw [IntWalk.i64_in _ (by have := HL.out; have := HFL.out; have := L1.out; have := L2.out; have := HLT.out; omega), hfs]; omega
                      clear hfs b3 h1 h2 h3 h4
                      go_wp2_with fail
                      refine (spec_l2Mod.calls _ _ _ _ HMX.out).mono ?_; rintro e w8 ⟨rfl, hd⟩; obtain ⟨q8, rfl⟩ := hd.out; clear hd
                      go_wp2_with fail
                      go_roundw
                      case rel => exact ⟨m + 1, q9 + q8, by have := HLT.out; omega, rfl, rfl, by simp⟩
                      case measure => simp [intOf]; have := HLT.out; omega
                    · have b4 : decide ((X + 5) % 7 < 5) = false := decide_eq_false h4
                      rw [if_neg (fun h => h4 h.2.2.2), Int.add_zero] at hfs
                      have HF := Lib.hid hfs; clear hfs b3 h1 h2 h3 h4
                      go_wp2_with fail
                      refine (spec_l2Mod.calls _ _ _ _ HMX.out).mono ?_; rintro e w8 ⟨rfl, hd⟩; obtain ⟨q8, rfl⟩ := hd.out; clear hd
                      go_wp2_with fail
                      go_roundw
                      case rel => exact ⟨m + 1, q9 + q8, by have := HLT.out; omega, rfl, by rw [HF.out], by simp⟩
                      case measure => simp [intOf]; have := HLT.out; omega
                  · have b2 : decide (X ≤ b) = false := decide_eq_false h2
                    have hfs := HFS.out
                    rw [if_neg (fun h => h2 h.2.1), Int.add_zero] at hfs
                    have HF := Lib.hid hfs; clear hfs h1 h2 h3 b3
                    go_wp2_with fail
                    go_roundw
                    case rel => exact ⟨m + 1, q9, by have := HLT.out; omega, rfl, by rw [HF.out], rfl⟩
                    case measure => simp [intOf]; have := HLT.out; omega
                · have b1 : decide (X ≥ a) = false := decide_eq_false h1
                  have hfs := HFS.out
                  rw [if_neg (fun h => h1 h.1), Int.add_zero] at hfs
                  have HF := Lib.hid hfs; clear hfs h1 h3 b3
                  go_wp2_with fail
                  go_roundw
                  case rel => exact ⟨m + 1, q9, by have := HLT.out; omega, rfl, by rw [HF.out], rfl⟩
                  case measure => simp [intOf]; have := HLT.out; omega
        · obtain rfl : j = l.length := by omega
          have wj3 : decide ((l.length : Int) < (l.length : Int)) = false := decide_eq_false (by omega)
          have ecw : wuV (b + 1) - wuV a - freeN a b l l.length = coreW a b l := rfl
          clear hlt hj
          rw [ecw]
          go_wp2_with fail
          go_ret
          refine ⟨?_, ⟨⟨_, rfl⟩⟩⟩
          show Ending.returned (.int .i64 (wrap64 (coreW a b l))) = _
          rw [EM.out]
set_option maxHeartbeats 8000000 in
set_option maxRecDepth 100000 in
theorem specWork_down (a b : Int) (A2 : Option Addr) (c2 : Nat) (l : List Int) (w : World) (hr : Kd.C (Kd.int .i64) w A2 l.length l) (hc : l.length ≤ c2)
    (hl : l.length ≤ 1000) (ha : dayB a = true) (hb : dayB b = true) (hab : b < a) :
    Calls Try.prog 19 #[.int .i64 a, .int .i64 b, .slice A2 l.length c2] w fun e w' => e = .returned (.int .i64 (-(coreW b a l))) ∧ Drawn0 w w' := by
  have ha' := dayB_iff.1 ha
  have hb' := dayB_iff.1 hb
  have hga := specDay_is a
  have hgb := specDay_is b
  rw [ha] at hga; rw [hb] at hgb
  have hcw := coreW_le b a l (by omega) (by omega) hl
  have blen : decide ((l.length : Int) > 1000) = false := decide_eq_false (by omega)
  have bba : decide (b < a) = true := decide_eq_true hab
  have hcell := fun (j : Nat) (hj : j < l.length) => Kd.at_int hr (j : Int) (by omega) (by omega)
  have e1 : IntKind.i64.wrap (a - b) = a - b := IntWalk.i64_in _ (by omega)
  have e2 : IntKind.i64.wrap (a - b + 1) = a - b + 1 := IntWalk.i64_in _ (by omega)
  obtain ⟨K, hK⟩ : ∃ K, K = (a - b + 1) / 7 := ⟨_, rfl⟩
  have e3 : IntKind.i64.wrap ((a - b + 1).tdiv 7) = K := by rw [td_pos (by omega), ← hK]; exact IntWalk.i64_in _ (by omega)
  have e4 : IntKind.i64.wrap (5 * K) = 5 * K := IntWalk.i64_in _ (by omega)
  have e5 : IntKind.i64.wrap (7 * K) = 7 * K := IntWalk.i64_in _ (by omega)
  have e6 : IntKind.i64.wrap (b + 7 * K) = b + 7 * K := IntWalk.i64_in _ (by omega)
  have hwk := wuV_weeks b K
  have l1 := wuV_le b (by omega)
  have l2 := wuV_le (a + 1) (by omega)
  have emul : wrap64 (-(coreW b a l)) = -(coreW b a l) := wrap_id (by omega) (by omega)
  have EM := Lib.hid emul; clear emul
  have HGA := Lib.hid hga; have HGB := Lib.hid hgb; have HCL := Lib.hid hcell; have HA := Lib.hid ha'; have HB2 := Lib.hid hb'; have HL := Lib.hid hl; have HC := Lib.hid hc; have L1 := Lib.hid l1; have L2 := Lib.hid l2; have HWKS := Lib.hid hwk; have HK := Lib.hid hK; have HAB := Lib.hid hab
  clear hga hgb hcell ha hb ha' hb' hl hr hc l1 l2 hab hcw hwk hK
  go_enter Try.func19, Try.ntmps19
  go_wp2_with fail
  refine (spec_l2Day.calls _ _ _ HGA.out).mono ?_; rintro e w1 ⟨rfl, hd⟩; obtain ⟨q1, rfl⟩ := hd.out; clear hd
  go_wp2_with fail
  refine (spec_l2Day.calls _ _ _ HGB.out).mono ?_; rintro e w1 ⟨rfl, hd⟩; obtain ⟨q2, rfl⟩ := hd.out; clear hd
  go_wp2_with fail
  go_loopw [11, 10] (fun i n w' => ∃ (d : Int) (q : Nat), b ≤ d ∧ d ≤ a + 1 ∧ i = .int .i64 d ∧ n = .int .i64 (wuV d - wuV b) ∧ w' = w.drewN q) (fun i _ _ => (a + 1 - intOf i).toNat)
  case atStart => exact ⟨b + 7 * K, q1 + q2, by have := HK.out; have := HAB.out; omega, by have := HK.out; have := HAB.out; omega, rfl, by rw [HWKS.out]; congr 1; omega, by simp⟩
  case round =>
    obtain ⟨d, q, hd1, hd2, rfl, rfl, rfl⟩ := hrel
    by_cases hlt : d ≤ a
    · have g1 : decide (d ≤ a) = true := decide_eq_true hlt
      have g2 : IntKind.i64.wrap (d + 5) = d + 5 := IntWalk.i64_in _ (by have := HA.out; have := HB2.out; omega)
      have g3 : IntKind.i64.wrap (d + 1) = d + 1 := IntWalk.i64_in _ (by have := HA.out; have := HB2.out; omega)
      have hm := specMod_is (d + 5) 7 (by omega) (by omega) (by have := HA.out; have := HB2.out; omega) (by have := HA.out; have := HB2.out; omega)
      have hs := wuV_step d
      have hld := wuV_le d (by have := HA.out; have := HB2.out; omega)
      have HM := Lib.hid hm; have HD1 := Lib.hid hd1; have HLT := Lib.hid hlt; have HLD := Lib.hid hld; clear hm hd1 hd2 hlt hld
      by_cases h4 : (d + 5) % 7 < 5
      · have b4 : decide ((d + 5) % 7 < 5) = true := decide_eq_true h4
        rw [if_pos h4] at hs
        have g4 : IntKind.i64.wrap (wuV d - wuV b + 1) = wuV (d + 1) - wuV b := by rw [IntWalk.i64_in _ (by have := HLD.out; have := L1.out; omega), hs]; omega
        have HS := Lib.hid hs; clear hs h4
        go_wp2_with fail
        refine (spec_l2Mod.calls _ _ _ _ HM.out).mono ?_; rintro e w2 ⟨rfl, hd⟩; obtain ⟨q3, rfl⟩ := hd.out; clear hd
        go_wp2_with fail
        go_roundw
        case rel => exact ⟨d + 1, q + q3, by have := HD1.out; omega, by have := HLT.out; omega, rfl, rfl, by simp⟩
        case measure => simp [intOf]; have := HLT.out; omega
      · have b4 : decide ((d + 5) % 7 < 5) = false := decide_eq_false h4
        rw [if_neg h4, Int.add_zero] at hs
        have HS := Lib.hid hs; clear hs h4
        go_wp2_with fail
        refine (spec_l2Mod.calls _ _ _ _ HM.out).mono ?_; rintro e w2 ⟨rfl, hd⟩; obtain ⟨q3, rfl⟩ := hd.out; clear hd
        go_wp2_with fail
        go_roundw
        case rel => exact ⟨d + 1, q + q3, by have := HD1.out; omega, by have := HLT.out; omega, rfl, by rw [HS.out], by simp⟩
        case measure => simp [intOf]; have := HLT.out; omega
    · obtain rfl : d = a + 1 := by omega
      have g1 : decide (a + 1 ≤ a) = false := decide_eq_false (by omega)
      clear hd1 hd2 hlt
      go_wp2_with fail
      go_loopw [60, 10] (fun i n w' => ∃ (j q : Nat), j ≤ l.length ∧ i = .int .i64 j ∧ n = .int .i64 (wuV (a + 1) - wuV b - freeN b a l j) ∧ w' = w.drewN q) (fun i _ _ => l.length - (intOf i).toNat)
      case atStart => exact ⟨0, q, Nat.zero_le _, rfl, by simp [freeN], rfl⟩
      case round =>
        obtain ⟨j, q, hj, rfl, rfl, rfl⟩ := hrel
        by_cases hlt : j < l.length
        · obtain ⟨ad, e, hcell⟩ := HCL.out j hlt
          cases e
          rw [Int.toNat_natCast] at hcell
          have hfl := freeN_le b a l j
          have hfs : freeN b a l (j + 1) = freeN b a l j + (if b ≤ rd l j ∧ rd l j ≤ a ∧ rd l j ∉ l.take j ∧ (rd l j + 5) % 7 < 5 then 1 else 0) := rfl
          have wj0 : (0 : Int) ≤ (j : Int) := Int.natCast_nonneg _
          have wj1 : (j : Int) < (l.length : Int) := by omega
          have wj2 : IntKind.i64.wrap ((j : Int) + 1) = (j : Int) + 1 := IntWalk.i64_in _ (by have := HL.out; omega)
          have wj3 : decide ((j : Int) < (l.length : Int)) = true := decide_eq_true wj1
          have wj4 : (j : Int) ≤ (c2 : Int) := by have := HC.out; omega
          have wj5 : (j : Int).toNat = j := Int.toNat_natCast _
          generalize hX : rd l (j : Int) = X at *
          have HFL := Lib.hid hfl; have HXX := Lib.hid hX; have HLT := Lib.hid hlt
          have HFS := Lib.hid hfs
          clear hfl hX hfs hlt hj
          go_wp2_with fail
          go_loopw [69, 14] (fun i n w' => ∃ (m q9 : Nat), m ≤ j ∧ i = .int .i64 m ∧ n = .bool (decide (X ∈ l.take m)) ∧ w' = w.drewN q9) (fun i _ _ => j - (intOf i).toNat)
          case atStart => exact ⟨0, q, Nat.zero_le _, rfl, by simp, rfl⟩
          case round =>
            obtain ⟨m, q9, hm, rfl, rfl, rfl⟩ := hrel
            by_cases hmlt : m < j
            · obtain ⟨ad2, e, hcell2⟩ := HCL.out m (by have := HLT.out; omega)
              cases e
              rw [Int.toNat_natCast] at hcell2
              have htk := take_rd l m (by have := HLT.out; omega)
              have v0 : (0 : Int) ≤ (m : Int) := Int.natCast_nonneg _
              have v1 : (m : Int) < (j : Int) := by omega
              have v2 : IntKind.i64.wrap ((m : Int) + 1) = (m : Int) + 1 := IntWalk.i64_in _ (by have := HL.out; have := HLT.out; omega)
              have v3 : decide ((m : Int) < (j : Int)) = true := decide_eq_true v1
              generalize hY : rd l (m : Int) = Y at *
              have HTK := Lib.hid htk; have HMLT := Lib.hid hmlt; clear htk hY hmlt hm
              by_cases hin : X ∈ l.take m
              · have i1 : decide (X ∈ l.take m) = true := decide_eq_true hin
                have i2 : decide (X ∈ l.take (m + 1)) = true := decide_eq_true (by rw [HTK.out]; simp [hin])
                rw [i1]
                have I2 := Lib.hid i2; clear hin i1 i2
                go_wp2_with fail
                go_roundw
                case rel => exact ⟨m + 1, q9, by have := HMLT.out; omega, rfl, by rw [I2.out], rfl⟩
                case measure => simp [intOf]; have := HMLT.out; omega
              · have i1 : decide (X ∈ l.take m) = false := decide_eq_false hin
                have i2 : decide (X ∈ l.take (m + 1)) = (Y == X) := by
                  rw [HTK.out]
                  by_cases e : Y = X
                  · subst e; simp
                  · rw [beq_eq_false_iff_ne.2 e]; simp [hin]; exact fun h => e h.symm
                rw [i1]
                have I2 := Lib.hid i2; clear hin i1 i2
                go_wp2_with fail
                go_roundw
                case rel => exact ⟨m + 1, q9, by have := HMLT.out; omega, rfl, by rw [I2.out], rfl⟩
                case measure => simp [intOf]; have := HMLT.out; omega
            · obtain rfl : m = j := by omega
              have v3 : decide ((m : Int) < (m : Int)) = false := decide_eq_false (by omega)
              clear hmlt hm
              by_cases h3 : X ∈ l.take m
              · have b3 : decide (X ∈ l.take m) = true := decide_eq_true h3
                have hfs := HFS.out
                rw [if_neg (fun h => h.2.2.1 h3), Int.add_zero] at hfs
                rw [b3]
                have HF := Lib.hid hfs; clear hfs b3 h3
                go_wp2_with fail
                go_roundw
                case rel => exact ⟨m + 1, q9, by have := HLT.out; omega, rfl, by rw [HF.out], rfl⟩
                case measure => simp [intOf]; have := HLT.out; omega
              · have b3 : decide (X ∈ l.take m) = false := decide_eq_false h3
                rw [b3]
                by_cases h1 : X ≥ b
                · have b1 : decide (X ≥ b) = true := decide_eq_true h1
                  by_cases h2 : X ≤ a
                  · have b2 : decide (X ≤ a) = true := decide_eq_true h2
                    have hmx := specMod_is (X + 5) 7 (by omega) (by omega) (by have := HA.out; have := HB2.out; omega) (by have := HA.out; have := HB2.out; omega)
                    have g2 : IntKind.i64.wrap (X + 5) = X + 5 := IntWalk.i64_in _ (by have := HA.out; have := HB2.out; omega)
                    have HMX := Lib.hid hmx; clear hmx
                    have hfs := HFS.out
                    by_cases h4 : (X + 5) % 7 < 5
                    · have b4 : decide ((X + 5) % 7 < 5) = true := decide_eq_true h4
                      rw [if_pos ⟨h1, h2, h3, h4⟩] at hfs
                      have wn : IntKind.i64.wrap (wuV (a + 1) - wuV b - freeN b a l m - 1) = wuV (a + 1) - wuV b - freeN b a l (m + 1) := by rw [IntWalk.i64_in _ (by have := HL.out; have := HFL.out; have := L1.out; have := L2.out; have := HLT.out; omega), hfs]; omega
                      clear hfs b3 h1 h2 h3 h4
                      go_wp2_with fail
                      refine (spec_l2Mod.calls _ _ _ _ HMX.out).mono ?_; rintro e w8 ⟨rfl, hd⟩; obtain ⟨q8, rfl⟩ := hd.out; clear hd
                      go_wp2_with fail
                      go_roundw
                      case rel => exact ⟨m + 1, q9 + q8, by have := HLT.out; omega, rfl, rfl, by simp⟩
                      case measure => simp [intOf]; have := HLT.out; omega
                    · have b4 : decide ((X + 5) % 7 < 5) = false := decide_eq_false h4
                      rw [if_neg (fun h => h4 h.2.2.2), Int.add_zero] at hfs
                      have HF := Lib.hid hfs; clear hfs b3 h1 h2 h3 h4
                      go_wp2_with fail
                      refine (spec_l2Mod.calls _ _ _ _ HMX.out).mono ?_; rintro e w8 ⟨rfl, hd⟩; obtain ⟨q8, rfl⟩ := hd.out; clear hd
                      go_wp2_with fail
                      go_roundw
                      case rel => exact ⟨m + 1, q9 + q8, by have := HLT.out; omega, rfl, by rw [HF.out], by simp⟩
                      case measure => simp [intOf]; have := HLT.out; omega
                  · have b2 : decide (X ≤ a) = false := decide_eq_false h2
                    have hfs := HFS.out
                    rw [if_neg (fun h => h2 h.2.1), Int.add_zero] at hfs
                    have HF := Lib.hid hfs; clear hfs h1 h2 h3 b3
                    go_wp2_with fail
                    go_roundw
                    case rel => exact ⟨m + 1, q9, by have := HLT.out; omega, rfl, by rw [HF.out], rfl⟩
                    case measure => simp [intOf]; have := HLT.out; omega
                · have b1 : decide (X ≥ b) = false := decide_eq_false h1
                  have hfs := HFS.out
                  rw [if_neg (fun h => h1 h.1), Int.add_zero] at hfs
                  have HF := Lib.hid hfs; clear hfs h1 h3 b3
                  go_wp2_with fail
                  go_roundw
                  case rel => exact ⟨m + 1, q9, by have := HLT.out; omega, rfl, by rw [HF.out], rfl⟩
                  case measure => simp [intOf]; have := HLT.out; omega
        · obtain rfl : j = l.length := by omega
          have wj3 : decide ((l.length : Int) < (l.length : Int)) = false := decide_eq_false (by omega)
          have ecw : wuV (a + 1) - wuV b - freeN b a l l.length = coreW b a l := rfl
          clear hlt hj
          rw [ecw]
          go_wp2_with fail
          go_ret
          refine ⟨?_, ⟨⟨_, rfl⟩⟩⟩
          show Ending.returned (.int .i64 (wrap64 (-(coreW b a l)))) = _
          rw [EM.out]
set_option maxHeartbeats 4000000 in
theorem specWork_calls (a b : Int) (A2 : Option Addr) (c2 : Nat) (l : List Int) (w : World) (hr : Kd.C (Kd.int .i64) w A2 l.length l) (hc : l.length ≤ c2) :
    Calls Try.prog 19 #[.int .i64 a, .int .i64 b, .slice A2 l.length c2] w fun e w' => e = .returned (.int .i64 (implWorkV a b l)) ∧ Drawn0 w w' := by
  have hga := specDay_is a
  have hgb := specDay_is b
  cases ha : dayB a
  · rw [ha] at hga
    have e0 : implWorkV a b l = 0 := by unfold implWorkV; rw [ha]; rfl
    rw [e0]
    have HGA := Lib.hid hga; clear hga hgb ha e0 hr hc
    go_enter Try.func19, Try.ntmps19
    go_wp2_with fail
    refine (spec_l2Day.calls _ _ _ HGA.out).mono ?_; rintro e w1 ⟨rfl, hd⟩; have HD := Lib.hid hd; clear hd
    go_wp2_with fail
    go_ret
    exact ⟨rfl, HD.out⟩
  cases hb : dayB b
  · rw [ha] at hga; rw [hb] at hgb
    have e0 : implWorkV a b l = 0 := by unfold implWorkV; rw [ha, hb]; rfl
    rw [e0]
    have HGA := Lib.hid hga; have HGB := Lib.hid hgb; clear hga hgb ha hb e0 hr hc
    go_enter Try.func19, Try.ntmps19
    go_wp2_with fail
    refine (spec_l2Day.calls _ _ _ HGA.out).mono ?_; rintro e w1 ⟨rfl, hd⟩; obtain ⟨q1, rfl⟩ := hd.out; clear hd
    go_wp2_with fail
    refine (spec_l2Day.calls _ _ _ HGB.out).mono ?_; rintro e w2 ⟨rfl, hd⟩; obtain ⟨q2, rfl⟩ := hd.out; clear hd
    go_wp2_with fail
    go_ret
    exact ⟨rfl, ⟨⟨q1 + q2, by simp⟩⟩⟩
  by_cases hl : l.length ≤ 1000
  · by_cases hab : b < a
    · have e0 : implWorkV a b l = -(coreW b a l) := by unfold implWorkV; rw [ha, hb, decide_eq_true hl, if_pos hab]; rfl
      rw [e0]
      exact specWork_down a b A2 c2 l w hr hc hl ha hb hab
    · have e0 : implWorkV a b l = coreW a b l := by unfold implWorkV; rw [ha, hb, decide_eq_true hl, if_neg hab]; rfl
      rw [e0]
      exact specWork_up a b A2 c2 l w hr hc hl ha hb (by omega)
  · rw [ha] at hga; rw [hb] at hgb
    have e0 : implWorkV a b l = 0 := by unfold implWorkV; rw [ha, hb, decide_eq_false hl]; rfl
    rw [e0]
    have blen : decide ((l.length : Int) > 1000) = true := decide_eq_true (by omega)
    have HGA := Lib.hid hga; have HGB := Lib.hid hgb; clear hga hgb ha hb e0 hr hc hl
    go_enter Try.func19, Try.ntmps19
    go_wp2_with fail
    refine (spec_l2Day.calls _ _ _ HGA.out).mono ?_; rintro e w1 ⟨rfl, hd⟩; obtain ⟨q1, rfl⟩ := hd.out; clear hd
    go_wp2_with fail
    refine (spec_l2Day.calls _ _ _ HGB.out).mono ?_; rintro e w2 ⟨rfl, hd⟩; obtain ⟨q2, rfl⟩ := hd.out; clear hd
    go_wp2_with fail
    go_ret
    exact ⟨rfl, ⟨⟨q1 + q2, by simp⟩⟩⟩
def spec_Workdays.f (a0 : Int) (a1 : Int) (l2 : List Int) : Option Int := some (implWorkV a0 a1 l2)
theorem spec_Workdays.calls (a0 : Int) (a1 : Int) (A2 : Option Addr) (c2 : Nat) (l2 : List Int) (r : Int) (w : World) (hr2 : Kd.C (Kd.int .i64) w A2 l2.length l2) (hc2 : l2.length ≤ c2) (h : spec_Workdays.f a0 a1 l2 = some r) :
    Calls Try.prog 19 #[.int .i64 a0, .int .i64 a1, .slice A2 l2.length c2] w fun e w' => e = .returned (.int .i64 r) ∧ Drawn0 w w' := by
  obtain rfl := Option.some.inj h
  exact specWork_calls a0 a1 A2 c2 l2 w hr2 hc2

/-! ### laws_toIntS: function 20 -/
def laws_toIntS.l0 : Nat → List Int → List Int → Int → Option (List Int)
  | 0, _, _, _ => none
  | k + 1, x0, x3, x4 => if x4 < (x0.length : Int) then (if 0 ≤ x4 then (if x4 < (x3.length : Int) then (laws_toIntS.l0 k x0 (x3.set (x4 : Int).toNat (rd x0 x4)) (wrap64 (x4 + 1))) else (none)) else (none)) else (some x3)
def laws_toIntS.f (k : Nat) (l0 : List Int) : Option (List Int) := if 0 ≤ (l0.length : Int) then (if ((l0.length : Int) : Int).toNat ≤ 35184372088832 then (laws_toIntS.l0 k l0 (List.replicate ((l0.length : Int) : Int).toNat 0) 0) else (none)) else (none)
theorem laws_toIntS.mono_l : ∀ k, (∀ y0 y1 y2, LeO (laws_toIntS.l0 k y0 y1 y2) (laws_toIntS.l0 (k + 1) y0 y1 y2))
  | 0 => fun _ _ _ r h => by simp [laws_toIntS.l0] at h
  | k + 1 => by
    have ih0 := laws_toIntS.mono_l k
    · intro y0 y1 y2
      unfold laws_toIntS.l0
      repeat' first
      | (with_reducible exact ih0 _ _ _)
      | (with_reducible exact LeO.refl _)
      | (with_reducible exact LeO.none _)
      | (with_reducible refine LeO.ite ?_ ?_)
      | (with_reducible refine LeO.bind ?_ (fun _ => ?_))
      | exact ih0 _ _ _
      | exact LeO.none _
      | refine LeO.ite ?_ ?_
      | refine LeO.bind ?_ (fun _ => ?_)
theorem laws_toIntS.mono : ∀ a0 k, LeO (laws_toIntS.f k a0) (laws_toIntS.f (k + 1) a0) := by
  intro a0 k
  have ih0 := laws_toIntS.mono_l k
  unfold laws_toIntS.f
  repeat' first
      | (with_reducible exact ih0 _ _ _)
      | (with_reducible exact LeO.refl _)
      | (with_reducible exact LeO.none _)
      | (with_reducible refine LeO.ite ?_ ?_)
      | (with_reducible refine LeO.bind ?_ (fun _ => ?_))
      | exact ih0 _ _ _
      | exact LeO.none _
      | refine LeO.ite ?_ ?_
      | refine LeO.bind ?_ (fun _ => ?_)
set_option maxHeartbeats 8000000 in
set_option maxRecDepth 100000 in
theorem laws_toIntS.calls (k : Nat) (A0 : Option Addr) (c0 : Nat) (l0 : List Int) (r : List Int) (w : World) (hr0 : Kd.C (Kd.int .i64) w A0 l0.length l0) (hc0 : l0.length ≤ c0) (h : laws_toIntS.f k l0 = some r) :
    Calls Try.prog 20 #[.slice A0 l0.length c0] w fun e w' => ∃ v0_ : Value, e = .returned (v0_) ∧ Kd.R (Kd.int .i64) 3 w' w.heap.size (fun _ => True) v0_ r ∧ Below w.heap.size w w' := by
  have HR0 := Aside0.mk hr0
  have HC0 := Aside0.mk hc0
  clear hr0 hc0
  have HB := Aside0.mk (Below.refl w.heap.size w)
  have H : (if 0 ≤ (l0.length : Int) then (if ((l0.length : Int) : Int).toNat ≤ 35184372088832 then (laws_toIntS.l0 k l0 (List.replicate ((l0.length : Int) : Int).toNat 0) 0) else (none)) else (none)) = some r := h
  clear h
  by_cases c2 : 0 ≤ (l0.length : Int)
  · rw [if_pos c2] at H
    have c2b0 := eq_true c2
    have c2b1 : decide (0 ≤ (l0.length : Int)) = true := decide_eq_true c2
    clear c2
    by_cases c3 : ((l0.length : Int) : Int).toNat ≤ 35184372088832
    · rw [if_pos c3] at H
      have c3b0 := eq_true c3
      have c3b1 : decide (((l0.length : Int) : Int).toNat ≤ 35184372088832) = true := decide_eq_true c3
      clear c3
      obtain ⟨y102, hy102⟩ : ∃ y_ : List Int, y_ = (List.replicate ((l0.length : Int) : Int).toNat 0) := ⟨_, rfl⟩
      replace H : (laws_toIntS.l0 k l0 y102 0) = some r := by first | (rw [hy102]; with_reducible exact H) | (have H2_ := (Option.bind_some _ _).symm.trans H; rw [hy102]; with_reducible exact H2_) | (have H2_ := (Option.bind_some _ _).symm.trans H; with_reducible exact H2_) | with_reducible exact H | (rw [hy102]; exact H) | exact H
      have Ny102 := Aside0.mk hy102
      clear hy102
      have H' := Aside0.mk H
      clear H
      go_enter Try.func20, Try.ntmps20
      go_wp2_with (first | ((with_reducible refine gate_dst (N := 7) rfl ?_); refine Kd.R_make (Kd.int .i64) _ 3 rfl (N := 7) rfl 33 _ _ rfl (l0.length : Int) rfl rfl Try.underlying33 (.int .i64 0) 8 info3 rfl (by decide) (by omega) 0 (ok := fun _ => True) (okp := fun _ => True) rfl (fun _ hk => hk) trivial (of_decide_eq_true (by first | (with_reducible assumption) | assumption)) (Nat.le_trans (Nat.mul_le_mul_right _ (of_decide_eq_true (by first | (with_reducible assumption) | assumption) : (l0.length : Int).toNat ≤ 35184372088832)) (by omega)) (Below.refl _ _) (Nat.le_refl _) ?_; intro v103 w4 ho5 hb hg_ hnew_; clear hg_ hnew_; (first | rw [← Ny102.out] at ho5 | (simp only [Int.reduceToNat] at ho5; rw [← Ny102.out] at ho5)); have n0_ := Aside0.mk (Kd.R_lower ho5 (below_size (by repeat (first | (with_reducible first | exact HB.out | apply below_alloc | apply pw_below_drewN | apply below_drew1) | exact HB.out)))); have n1_ := Aside0.mk (below_step (by repeat (first | (with_reducible first | exact HB.out | apply below_alloc | apply pw_below_drewN | apply below_drew1) | exact HB.out)) hb); clear HB; have HO104 := n0_; have HB := n1_; clear n0_ n1_; clear hb ho5))
      go_loopg [4] k (fun kq v4 w' => ∃ (x3_1 : List Int) (x4_1 : Int), v4 = .int .i64 x4_1 ∧ Aside0 (laws_toIntS.l0 kq l0 x3_1 x4_1 = some r) ∧ Aside0 (kq ≤ k) ∧ Aside0 (Kd.R (Kd.int .i64) 3 w' w.heap.size (fun _ => True) v103 x3_1) ∧ Aside0 (Below w.heap.size w w'))
      case atStart => exact ⟨(y102), (0), (by first | rfl | (simp; done) | (simp [*]; done)), H', ⟨Nat.le_refl _⟩, ⟨by (with_reducible repeat (first | apply Kd.R_alloc | apply Kd.R_drewN | apply Kd.R_drew)); exact HO104.out⟩, ⟨by repeat (first | (with_reducible first | exact HB.out | apply below_alloc | apply pw_below_drewN | apply below_drew1) | exact HB.out)⟩⟩
      case round =>
        clear H'
        try clear c2
        try clear c2b0
        try clear c2b1
        try clear p2
        try clear c3
        try clear c3b0
        try clear c3b1
        obtain ⟨x3_1, x4_1, rfl, HA, HK1, HO_3, HB⟩ := hrel
        cases gk with
        | zero => exact absurd HA.out (by simp [laws_toIntS.l0])
        | succ k1 =>
          have H := HA.out
          clear HA
          simp only [laws_toIntS.l0] at H
          by_cases c6 : x4_1 < (l0.length : Int)
          · rw [if_pos c6] at H
            have c6b0 : decide (x4_1 < (l0.length : Int)) = true := decide_eq_true c6
            clear c6
            by_cases c7 : 0 ≤ x4_1
            · rw [if_pos c7] at H
              have c7b0 : decide (0 ≤ x4_1) = true := decide_eq_true c7
              clear c7
              by_cases c8 : x4_1 < (x3_1.length : Int)
              · rw [if_pos c8] at H
                have c8b0 : decide (x4_1 < (x3_1.length : Int)) = true := decide_eq_true c8
                clear c8
                obtain ⟨y106, hy106⟩ : ∃ y_ : List Int, y_ = (x3_1.set (x4_1 : Int).toNat (rd l0 x4_1)) := ⟨_, rfl⟩
                replace H : (laws_toIntS.l0 k1 l0 y106 (wrap64 (x4_1 + 1))) = some r := by first | (rw [hy106]; with_reducible exact H) | (have H2_ := (Option.bind_some _ _).symm.trans H; rw [hy106]; with_reducible exact H2_) | (have H2_ := (Option.bind_some _ _).symm.trans H; with_reducible exact H2_) | with_reducible exact H | (rw [hy106]; exact H) | exact H
                have Ny106 := Aside0.mk hy106
                clear hy106
                have H' := Aside0.mk H
                clear H
                have p105 : 0 ≤ (x4_1 : Int) := of_decide_eq_true (by first | (with_reducible assumption) | assumption)
                have q105 : x4_1 < (l0.length : Int) := of_decide_eq_true (by first | (with_reducible assumption) | assumption)
                obtain ⟨ad105, e105, hx105_0⟩ := Kd.at_int HR0.out x4_1 p105 q105
                cases e105
                replace hx105_0 := (HB.out.cell (World.block_lt_of_cell? w _ hx105_0)).trans hx105_0
                replace p105 := eq_true p105
                replace q105 := eq_true q105
                have p9 : 0 ≤ (x4_1 : Int) := of_decide_eq_true (by first | (with_reducible assumption) | assumption)
                have q9 : (x4_1 : Int) < ((x3_1.length : Int) : Int) := of_decide_eq_true (by first | (with_reducible assumption) | assumption)
                obtain ⟨go9, co9, eo9, gb9, gl9, cl9, HG9⟩ := Kd.R_form HO_3.out (by omega)
                (first | cases eo9 | (injection eo9 with ea_ en_ ec_; (first | subst ea_ | (injection ea_ with ea_; subst ea_)); subst ec_; clear en_))
                have GB9 := Aside0.mk gb9
                have GG9 := Aside0.mk HG9
                clear gb9 gl9 HG9
                obtain ⟨hx9_0, hf9_0⟩ := Kd.R_celln 0 HO_3.out (x4_1 : Int) p9 q9
                replace p9 := eq_true p9
                replace q9 := eq_true q9
                have HP10 := Kd.R_putg HO_3.out (x4_1 : Int) (rd l0 x4_1)
                go_wp2_with (first | ((with_reducible refine gate_store (t := 3) (p := 20) rfl ?_); refine store_event (t := 3) (p := 20) (v := ?vo_w11) (w1 := (wr.setCell ⟨go9, (x4_1 : Int).toNat, none⟩ (.int .i64 (rd l0 x4_1)))) ?hg ?ho ?hn ?hr ?_; (case ho => rfl); (case hg => rfl); (case hn => rfl); (case hr => first | (go_simp; done) | (go_simp; rfl)); intro w11 hw; have hg : wr.grownBy w11 (some go9) := (by rw [hw]; exact HP10.2); have hp_ : Kd.R (Kd.int .i64) 3 w11 w.heap.size (fun _ => True) (.slice (some ⟨go9, 0, none⟩) x3_1.length co9) y106 := (by rw [hw, Ny106.out]; exact HP10.1); clear HP10; have n0_ := Aside0.mk (hp_); have n1_ := Aside0.mk ((by rw [hw]; exact below_set (HB.out) GB9.out : Below w.heap.size w w11)); clear HO_3; clear HB; have HO_3 := n0_; have HB := n1_; clear n0_ n1_; clear hg hw hp_))
                go_roundg k1
                case measure => have := HK1.out; omega
                case rel => exact ⟨(y106), (wrap64 (x4_1 + 1)), (by first | rfl | (simp; done) | (simp [*]; done)), H', ⟨by have := HK1.out; omega⟩, ⟨by (with_reducible repeat (first | apply Kd.R_alloc | apply Kd.R_drewN | apply Kd.R_drew)); exact HO_3.out⟩, ⟨by repeat (first | (with_reducible first | exact HB.out | apply below_alloc | apply pw_below_drewN | apply below_drew1) | exact HB.out)⟩⟩
              · rw [if_neg c8] at H
                exact absurd H (by simp)
            · rw [if_neg c7] at H
              exact absurd H (by simp)
          · rw [if_neg c6] at H
            have c6b0 : decide (x4_1 < (l0.length : Int)) = false := decide_eq_false c6
            clear c6
            obtain rfl := Option.some.inj H
            go_wp2
            go_ret
            exact ⟨_, by first | rfl | (simp [errW_none, errW_some] <;> rfl) | (simp [*, errW_none, errW_some] <;> rfl), by (with_reducible repeat (first | apply Kd.R_alloc | apply Kd.R_drewN | apply Kd.R_drew)); exact HO_3.out, by repeat (first | (with_reducible first | exact HB.out | apply below_alloc | apply pw_below_drewN | apply below_drew1) | exact HB.out)⟩
    · rw [if_neg c3] at H
      exact absurd H (by simp)
  · rw [if_neg c2] at H
    exact absurd H (by simp)

/-! ### impl_isDay: function 69 -/
def impl_isDay.f (a0 : Int) : Option (Bool) := if a0 ≥ (-1000000) then (some (decide (a0 ≤ 1000000))) else (some false)
set_option maxHeartbeats 8000000 in
set_option maxRecDepth 100000 in
theorem impl_isDay.calls (a0 : Int) (r : Bool) (w : World) (h : impl_isDay.f a0 = some r) :
    Calls Try.prog 69 #[.int .i64 a0] w fun e w' => e = .returned (.bool r) ∧ Drawn0 w w' := by
  have H : (if a0 ≥ (-1000000) then (some (decide (a0 ≤ 1000000))) else (some false)) = some r := h
  clear h
  by_cases c2 : a0 ≥ (-1000000)
  · rw [if_pos c2] at H
    have c2b0 : decide ((-1000000) ≤ a0) = true := decide_eq_true c2
    clear c2
    obtain rfl := Option.some.inj H
    go_enter Try.func69, Try.ntmps69
    go_wp2
    go_ret
    exact ⟨by first | rfl | (simp; done) | (simp [*]; done), by repeat (first | exact Drawn0.refl _ | apply Drawn0.step)⟩
  · rw [if_neg c2] at H
    have c2b0 : decide ((-1000000) ≤ a0) = false := decide_eq_false c2
    clear c2
    obtain rfl := Option.some.inj H
    go_enter Try.func69, Try.ntmps69
    go_wp2
    go_ret
    exact ⟨by first | rfl | (simp; done) | (simp [*]; done), by repeat (first | exact Drawn0.refl _ | apply Drawn0.step)⟩

/-! ### impl_floorDiv_int: function 131 -/
def impl_floorDiv_int.f (a0 : Int) (a1 : Int) : Option (Int) := if a1 = 0 then (none) else (if (Int.tmod a0 a1) = 0 then (some (wrap64 (Int.tdiv a0 a1))) else (if ((decide (a0 < 0)) != (decide (a1 < 0))) = true then (some (wrap64 ((wrap64 (Int.tdiv a0 a1)) - 1))) else (some (wrap64 (Int.tdiv a0 a1)))))
set_option maxHeartbeats 8000000 in
set_option maxRecDepth 100000 in
theorem impl_floorDiv_int.calls (a0 : Int) (a1 : Int) (r : Int) (w : World) (h : impl_floorDiv_int.f a0 a1 = some r) :
    Calls Try.prog 131 #[.int .i64 a0, .int .i64 a1] w fun e w' => e = .returned (.int .i64 r) ∧ Drawn0 w w' := by
  have H : (if a1 = 0 then (none) else (if (Int.tmod a0 a1) = 0 then (some (wrap64 (Int.tdiv a0 a1))) else (if ((decide (a0 < 0)) != (decide (a1 < 0))) = true then (some (wrap64 ((wrap64 (Int.tdiv a0 a1)) - 1))) else (some (wrap64 (Int.tdiv a0 a1)))))) = some r := h
  clear h
  by_cases c3 : a1 = 0
  · rw [if_pos c3] at H
    exact absurd H (by simp)
  · rw [if_neg c3] at H
    have c3b0 : (a1 == 0) = false := beq_eq_false_iff_ne.mpr c3
    have c3b1 : (a1 != 0) = true := bne_iff_ne.mpr c3
    by_cases c4 : (Int.tmod a0 a1) = 0
    · rw [if_pos c4] at H
      have c4b0 : ((Int.tmod a0 a1) == 0) = true := beq_iff_eq.mpr c4
      have c4b1 : ((Int.tmod a0 a1) != 0) = false := bne_eq_false_iff_eq.mpr c4
      clear c4
      obtain rfl := Option.some.inj H
      go_enter Try.func131, Try.ntmps131
      go_wp2
      go_ret
      exact ⟨by first | rfl | (simp; done) | (simp [*]; done), by repeat (first | exact Drawn0.refl _ | apply Drawn0.step)⟩
    · rw [if_neg c4] at H
      have c4b0 : ((Int.tmod a0 a1) == 0) = false := beq_eq_false_iff_ne.mpr c4
      have c4b1 : ((Int.tmod a0 a1) != 0) = true := bne_iff_ne.mpr c4
      by_cases c5 : ((decide (a0 < 0)) != (decide (a1 < 0))) = true
      · rw [if_pos c5] at H
        have c5b0 : ((decide (a0 < 0)) != (decide (a1 < 0))) = true := c5
        (try (have c5b1 : decide ((decide (a0 < 0)) = (decide (a1 < 0))) = false := by simpa using c5))
        (try (have c5b2 : ((decide (a0 < 0)) == (decide (a1 < 0))) = false := by simpa using c5))
        (try (have c5b3 : ¬ ((decide (a0 < 0)) = (decide (a1 < 0))) := by simpa using c5))
        clear c5
        obtain rfl := Option.some.inj H
        go_enter Try.func131, Try.ntmps131
        go_wp2
        go_ret
        exact ⟨by first | rfl | (simp; done) | (simp [*]; done), by repeat (first | exact Drawn0.refl _ | apply Drawn0.step)⟩
      · rw [if_neg c5] at H
        have c5b0 : ((decide (a0 < 0)) != (decide (a1 < 0))) = false := by simpa using c5
        (try (have c5b1 : decide ((decide (a0 < 0)) = (decide (a1 < 0))) = true := by simpa using c5))
        (try (have c5b2 : ((decide (a0 < 0)) == (decide (a1 < 0))) = true := by simpa using c5))
        clear c5
        obtain rfl := Option.some.inj H
        go_enter Try.func131, Try.ntmps131
        go_wp2
        go_ret
        exact ⟨by first | rfl | (simp; done) | (simp [*]; done), by repeat (first | exact Drawn0.refl _ | apply Drawn0.step)⟩

/-! ### impl_floorMod_int: function 86 -/
def impl_floorMod_int.f (a0 : Int) (a1 : Int) : Option (Int) := (impl_floorDiv_int.f a0 a1).bind fun t107 => (some (wrap64 (a0 - (wrap64 (t107 * a1)))))
set_option maxHeartbeats 8000000 in
set_option maxRecDepth 100000 in
theorem impl_floorMod_int.calls (a0 : Int) (a1 : Int) (r : Int) (w : World) (h : impl_floorMod_int.f a0 a1 = some r) :
    Calls Try.prog 86 #[.int .i64 a0, .int .i64 a1] w fun e w' => e = .returned (.int .i64 r) ∧ Drawn0 w w' := by
  have H : ((impl_floorDiv_int.f a0 a1).bind fun t107 => (some (wrap64 (a0 - (wrap64 (t107 * a1)))))) = some r := h
  clear h
  replace H := Option.bind_eq_some_iff.mp H
  obtain ⟨t107, A30, H⟩ := H
  replace H : (some (wrap64 (a0 - (wrap64 (t107 * a1))))) = some r := H
  have A3 := Aside0.mk A30
  clear A30
  obtain rfl := Option.some.inj H
  go_enter Try.func86, Try.ntmps86
  go_wp2_with (first | ((with_reducible refine gate_callee (f := 131) rfl ?_); refine goesL_ (some 8) rfl rfl Try.func131 (by kernel_rfl) rfl #[.int .i64 a0, .int .i64 a1] rfl (by (try simp only [List.map_toArray, List.map_cons, List.map_nil]); first | done | rfl | (simp only [List.length_drop, List.length_take]; rfl)) ?_; (with_reducible refine (impl_floorDiv_int.calls a0 a1 t107 _ A3.out).mono ?_); rintro e w' ⟨rfl, ⟨nd, rfl⟩⟩; refine ⟨_, rfl, ?_⟩))
  go_ret
  exact ⟨by first | rfl | (simp; done) | (simp [*]; done), by repeat (first | exact Drawn0.refl _ | apply Drawn0.step)⟩

/-! ### impl_Weekday: function 31 -/
def impl_Weekday.f (a0 : Int) : Option (Int) := (impl_isDay.f a0).bind fun t108 => (if t108 = true then ((impl_floorMod_int.f (wrap64 (a0 + 5)) 7).bind fun t109 => (some t109)) else (some (-1)))
set_option maxHeartbeats 8000000 in
set_option maxRecDepth 100000 in
theorem impl_Weekday.calls (a0 : Int) (r : Int) (w : World) (h : impl_Weekday.f a0 = some r) :
    Calls Try.prog 31 #[.int .i64 a0] w fun e w' => e = .returned (.int .i64 r) ∧ Drawn0 w w' := by
  have H : ((impl_isDay.f a0).bind fun t108 => (if t108 = true then ((impl_floorMod_int.f (wrap64 (a0 + 5)) 7).bind fun t109 => (some t109)) else (some (-1)))) = some r := h
  clear h
  replace H := Option.bind_eq_some_iff.mp H
  obtain ⟨t108, A20, H⟩ := H
  replace H : (if t108 = true then ((impl_floorMod_int.f (wrap64 (a0 + 5)) 7).bind fun t109 => (some t109)) else (some (-1))) = some r := H
  have A2 := Aside0.mk A20
  clear A20
  by_cases c3 : t108 = true
  · subst c3
    have H1 : ((impl_floorMod_int.f (wrap64 (a0 + 5)) 7).bind fun t109 => (some t109)) = some r := by rw [if_pos rfl] at H; exact H
    clear H
    have H := H1
    clear H1
    replace H := Option.bind_eq_some_iff.mp H
    obtain ⟨t109, A40, H⟩ := H
    replace H : (some t109) = some r := H
    have A4 := Aside0.mk A40
    clear A40
    obtain rfl := Option.some.inj H
    go_enter Try.func31, Try.ntmps31
    go_wp2_with (first | ((with_reducible refine gate_callee (f := 69) rfl ?_); refine goesL_ (some 4) rfl rfl Try.func69 (by kernel_rfl) rfl #[.int .i64 a0] rfl (by (try simp only [List.map_toArray, List.map_cons, List.map_nil]); first | done | rfl | (simp only [List.length_drop, List.length_take]; rfl)) ?_; (with_reducible refine (impl_isDay.calls a0 true _ A2.out).mono ?_); rintro e w' ⟨rfl, ⟨nd, rfl⟩⟩; refine ⟨_, rfl, ?_⟩) | ((with_reducible refine gate_callee (f := 86) rfl ?_); refine goesL_ (some 8) rfl rfl Try.func86 (by kernel_rfl) rfl #[.int .i64 (wrap64 (a0 + 5)), .int .i64 7] rfl (by (try simp only [List.map_toArray, List.map_cons, List.map_nil]); first | done | rfl | (simp only [List.length_drop, List.length_take]; rfl)) ?_; (with_reducible refine (impl_floorMod_int.calls (wrap64 (a0 + 5)) 7 t109 _ A4.out).mono ?_); rintro e w' ⟨rfl, ⟨nd, rfl⟩⟩; refine ⟨_, rfl, ?_⟩))
    go_ret
    exact ⟨by first | rfl | (simp; done) | (simp [*]; done), by repeat (first | exact Drawn0.refl _ | apply Drawn0.step)⟩
  · replace c3 := Bool.eq_false_iff.mpr c3
    subst c3
    have H1 : (some (-1)) = some r := by rw [if_neg (show ¬ (false = true) by decide)] at H; exact H
    clear H
    have H := H1
    clear H1
    obtain rfl := Option.some.inj H
    go_enter Try.func31, Try.ntmps31
    go_wp2_with (first | ((with_reducible refine gate_callee (f := 69) rfl ?_); refine goesL_ (some 4) rfl rfl Try.func69 (by kernel_rfl) rfl #[.int .i64 a0] rfl (by (try simp only [List.map_toArray, List.map_cons, List.map_nil]); first | done | rfl | (simp only [List.length_drop, List.length_take]; rfl)) ?_; (with_reducible refine (impl_isDay.calls a0 false _ A2.out).mono ?_); rintro e w' ⟨rfl, ⟨nd, rfl⟩⟩; refine ⟨_, rfl, ?_⟩))
    go_ret
    exact ⟨by first | rfl | (simp; done) | (simp [*]; done), by repeat (first | exact Drawn0.refl _ | apply Drawn0.step)⟩

/-! ### impl_workUpTo: function 70 -/
def impl_workUpTo.f (a0 : Int) : Option (Int) := some (wrap64 ((wrap64 ((wrap64 (Int.tdiv (wrap64 ((wrap64 (a0 + 7000000)) + 5)) 7)) * 5)) + (mn (Int.tmod (wrap64 ((wrap64 (a0 + 7000000)) + 5)) 7) 5)))
set_option maxHeartbeats 8000000 in
set_option maxRecDepth 100000 in
theorem impl_workUpTo.calls (a0 : Int) (r : Int) (w : World) (h : impl_workUpTo.f a0 = some r) :
    Calls Try.prog 70 #[.int .i64 a0] w fun e w' => e = .returned (.int .i64 r) ∧ Below w.heap.size w w' := by
  have HB := Aside0.mk (Below.refl w.heap.size w)
  have H : (some (wrap64 ((wrap64 ((wrap64 (Int.tdiv (wrap64 ((wrap64 (a0 + 7000000)) + 5)) 7)) * 5)) + (mn (Int.tmod (wrap64 ((wrap64 (a0 + 7000000)) + 5)) 7) 5)))) = some r := h
  clear h
  obtain ⟨ji2, hji2⟩ : ∃ j_ : Int, (mn (Int.tmod (wrap64 ((wrap64 (a0 + 7000000)) + 5)) 7) 5) = j_ := ⟨_, rfl⟩
  replace H : (some (wrap64 ((wrap64 ((wrap64 (Int.tdiv (wrap64 ((wrap64 (a0 + 7000000)) + 5)) 7)) * 5)) + (ji2)))) = some r := by first | (rw [hji2] at H; exact H) | (simp only [hji2] at H ⊢; exact H)
  (try (have hji2h : ji2 ≤ 5 := by (rw [← hji2]; unfold mn; (repeat' split) <;> omega)))
  (try (have hji2g : ji2 ≤ 64 := by omega))
  have hji2_ : (if 5 < (Int.tmod (wrap64 ((wrap64 (a0 + 7000000)) + 5)) 7) then 5 else (Int.tmod (wrap64 ((wrap64 (a0 + 7000000)) + 5)) 7)) = ji2 := hji2
  obtain rfl := Option.some.inj H
  go_enter Try.func70, Try.ntmps70
  go_wp2
  go_ret
  exact ⟨by first | rfl | (simp [errW_none, errW_some] <;> rfl) | (simp only [← hji2]; first | rfl | (simp [errW_none, errW_some] <;> rfl)) | (simp [*, errW_none, errW_some] <;> rfl), by repeat (first | (with_reducible first | exact HB.out | apply below_alloc | apply pw_below_drewN | apply below_drew1) | exact HB.out)⟩

/-! ### impl_Workdays: function 21 -/
/-! a map from whole numbers to truths: which numbers it holds -/
def SeenM (P : Program) (kt et : TypeId) (w : World) (b : Nat) (S : List Int) : Prop :=
  ∃ (n : Nat) (D : DataW Nat), n ≤ S.length ∧ w.ownsMap P kt (plainElem P et) b n D ∧ Maps.IsMap D ∧ ∀ x, (Lit.int .i64 x).wf = true → D.atKey (.int .i64 x) (.lit (.bool false)) = .lit (.bool (decide (x ∈ S)))
theorem seen_made (P : Program) (kt et : TypeId) (w : World) : SeenM P kt et (w.alloc (.map #[] 0)) w.heap.size [] :=
  ⟨0, .map [], Nat.le_refl _, World.ownsMap_made w P kt _, Maps.isMap_empty, fun x _ => by simp [DataW.atKey]⟩
theorem SeenM.kept {P : Program} {kt et : TypeId} {w w' : World} {b : Nat} {S : List Int} (h : SeenM P kt et w b S) {row : Option Nat} (hg : w.grownBy w' row) (hne : some b ≠ row) : SeenM P kt et w' b S := by
  obtain ⟨n, D, h1, h2, h3, h4⟩ := h
  exact ⟨n, D, h1, h2.kept hg hne, h3, h4⟩
theorem SeenM.drewN {P : Program} {kt et : TypeId} {w : World} {b : Nat} {S : List Int} (h : SeenM P kt et w b S) (q : Nat) : SeenM P kt et (w.drewN q) b S := h
theorem SeenM.lt {P : Program} {kt et : TypeId} {w : World} {b : Nat} {S : List Int} (h : SeenM P kt et w b S) : b < w.heap.size := by
  obtain ⟨n, D, h1, h2, h3, h4⟩ := h
  exact h2.lt
theorem plainElem_bool_inv {P : Program} {e : TypeId} (he : P.underlying e = some .bool) {v : Value} {z : DataW Nat × List MemPlace} (h : plainElem P e v = some z) : ∃ x, v = .bool x ∧ z = (.lit (.bool x), []) := by
  unfold plainElem at h
  rw [he] at h
  split at h
  · rename_i x _; exact ⟨x, rfl, by cases h; rfl⟩
  · rename_i h1; cases h1
  · rename_i h1; cases h1
  · cases h
theorem SeenM.look {P : Program} {kt et mt : TypeId} {w : World} {b : Nat} {S : List Int} (h : SeenM P kt et w b S) (hk : P.underlying kt = some (.int .i64)) (he : P.underlying et = some .bool) (hm : P.underlying mt = some (.map kt et))
    (hz : (zeroValue et).run P w = .ok (.bool false) w) {x : Int} (hx : (Lit.int .i64 x).wf = true) : (Instr.lookup mt (.map (some b)) (.int .i64 x) false).run P w = .ok (.bool (decide (x ∈ S))) w := by
  obtain ⟨n, D, h1, h2, h3, h4⟩ := h
  obtain ⟨v, ps, hrun, hv⟩ := h2.lookup (Maps.int_keyed hk) hm hz (plainElem_bool he false) (Maps.keyOf_int_mk hk hx)
  rw [h4 x hx] at hv
  obtain ⟨y, rfl, hy⟩ := plainElem_bool_inv he hv
  simp only [Prod.mk.injEq, DataW.lit.injEq, Lit.bool.injEq] at hy
  rw [hrun, hy.1]
theorem SeenM.put {P : Program} {kt et mt : TypeId} {w : World} {b : Nat} {S : List Int} (h : SeenM P kt et w b S) (hk : P.underlying kt = some (.int .i64)) (he : P.underlying et = some .bool) (hm : P.underlying mt = some (.map kt et))
    (hn : S.length < maxLen) {x : Int} (hx : (Lit.int .i64 x).wf = true) :
    ∃ w', (Instr.mapUpdate mt (.map (some b)) (.int .i64 x) (.bool true)).run P w = .ok () w' ∧ SeenM P kt et w' b (S ++ [x]) ∧ w.grownBy w' (some b) := by
  obtain ⟨n, D, h1, h2, h3, h4⟩ := h
  obtain ⟨w', hrun, hown, hg⟩ := h2.update (Maps.int_keyed hk) hm (by omega) (Maps.keyOf_int_mk hk hx) (plainElem_bool he true)
  refine ⟨w', hrun, ⟨n + 1, _, by simp; omega, hown, h3.put _ _, fun y hy => ?_⟩, hg⟩
  by_cases e : y = x
  · subst e
    rw [Maps.atKey_put_same h3 (by simp [WideAt.IsKeyLit])]
    simp
  · rw [Maps.atKey_put_other (by simpa using e), h4 y hy]
    simp [e]

theorem isDay_is (d : Int) : impl_isDay.f d = some (dayB d) := by
  unfold impl_isDay.f dayB
  by_cases h : d ≥ -1000000
  · rw [if_pos h]; congr 1; rw [decide_eq_decide]; omega
  · rw [if_neg h]; congr 1; symm; rw [decide_eq_false_iff_not]; omega
theorem workUpTo_is (d : Int) (h : -1000001 ≤ d ∧ d ≤ 1000001) : impl_workUpTo.f d = some (wuV d) := by
  unfold impl_workUpTo.f wuV mn
  rw [wrap_id (x := d + 7000000) (by omega) (by omega), wrap_id (x := d + 7000000 + 5) (by omega) (by omega), td_pos (by omega), tm_pos (by omega)]
  rw [wrap_id (x := (d + 7000000 + 5) / 7) (by omega) (by omega), wrap_id (x := (d + 7000000 + 5) / 7 * 5) (by omega) (by omega)]
  have e : d + 7000000 + 5 = d + 7000005 := by omega
  rw [e]
  congr 1
  by_cases h5 : (5 : Int) < (d + 7000005) % 7
  · rw [if_pos h5, if_neg (by omega), wrap_id (by omega) (by omega)]
  · rw [if_neg h5]
    by_cases h6 : (d + 7000005) % 7 < 5
    · rw [if_pos h6, wrap_id (by omega) (by omega)]
    · rw [if_neg h6, wrap_id (by omega) (by omega)]; omega
theorem weekday_is (d : Int) (h : dayB d = true) : impl_Weekday.f d = some ((d + 5) % 7) := by
  unfold impl_Weekday.f
  rw [isDay_is]
  have hd : -1000000 ≤ d ∧ d ≤ 1000000 := of_decide_eq_true h
  simp only [h, Option.bind_some, if_true]
  rw [wrap_id (x := d + 5) (by omega) (by omega)]
  unfold impl_floorMod_int.f
  have e : impl_floorDiv_int.f (d + 5) 7 = some ((d + 5) / 7) := by unfold impl_floorDiv_int.f; exact floor_is (by omega) (by omega) (by omega)
  rw [e]
  simp only [Option.bind_some]
  rw [wrap_id (x := (d + 5) / 7 * 7) (by omega) (by omega), wrap_id (by omega) (by omega)]
  congr 1; omega
set_option maxHeartbeats 4000000 in
set_option maxRecDepth 100000 in
theorem implWork_up (a b : Int) (A2 : Option Addr) (c2 : Nat) (l : List Int) (w : World) (hr : Kd.C (Kd.int .i64) w A2 l.length l) (hc : l.length ≤ c2) (hw : ∀ x ∈ l, (Lit.int .i64 x).wf = true)
    (hl : l.length ≤ 1000) (ha : dayB a = true) (hb : dayB b = true) (hab : a ≤ b) :
    Calls Try.prog 21 #[.int .i64 a, .int .i64 b, .slice A2 l.length c2] w fun e w' => e = .returned (.int .i64 (coreW a b l)) ∧ Below w.heap.size w w' := by
  have ha' := dayB_iff.1 ha
  have hb' := dayB_iff.1 hb
  have hga := isDay_is a
  have hgb := isDay_is b
  rw [ha] at hga; rw [hb] at hgb
  have hua := workUpTo_is a (by omega)
  have hub := workUpTo_is (b + 1) (by omega)
  have l1 := wuV_le a (by omega)
  have l2 := wuV_le (b + 1) (by omega)
  have ew : IntKind.i64.wrap (b + 1) = b + 1 := IntWalk.i64_in _ (by omega)
  have ews : IntKind.i64.wrap (wuV (b + 1) - wuV a) = wuV (b + 1) - wuV a := IntWalk.i64_in _ (by omega)
  have blen : decide ((l.length : Int) > 1000) = false := decide_eq_false (by omega)
  have bba : decide (b < a) = false := decide_eq_false (by omega)
  have hcell := fun (j : Nat) (hj : j < l.length) => Kd.at_int hr (j : Int) (by omega) (by omega)
  have HGA := Lib.hid hga; have HGB := Lib.hid hgb; have HUA := Lib.hid hua; have HUB := Lib.hid hub; have HCL := Lib.hid hcell; have HA := Lib.hid ha'; have HB2 := Lib.hid hb'; have HL := Lib.hid hl; have HW := Lib.hid hw; have HC := Lib.hid hc; have L1 := Lib.hid l1; have L2 := Lib.hid l2
  clear hga hgb hua hub hcell ha hb ha' hb' hl hw hr hc l1 l2 hab
  go_enter Try.func21, Try.ntmps21
  go_wp2_with fail
  refine (impl_isDay.calls _ _ _ HGA.out).mono ?_; rintro e w1 ⟨rfl, hd⟩; obtain ⟨q1, rfl⟩ := hd.out; clear hd
  go_wp2_with fail
  refine (impl_isDay.calls _ _ _ HGB.out).mono ?_; rintro e w1 ⟨rfl, hd⟩; obtain ⟨q2, rfl⟩ := hd.out; clear hd
  go_wp2_with fail
  refine (impl_workUpTo.calls _ _ _ HUB.out).mono ?_; rintro e w1 ⟨rfl, hd⟩; have HD1 := Lib.hid hd; clear hd
  go_wp2_with fail
  refine (impl_workUpTo.calls _ _ _ HUA.out).mono ?_; rintro e w2 ⟨rfl, hd⟩; have HD := Lib.hid (below_step (pw_below_drewN (Below.refl w.heap.size w) (q1 + q2)) (below_step HD1.out hd)); clear hd HD1
  have hsz := below_size HD.out
  have HSZ := Lib.hid hsz; clear hsz
  have hmade := seen_made Try.prog 3 4 w2
  have HM := Lib.hid hmade; clear hmade
  have hmk : (Instr.makeMap 106 none).run Try.prog w2 = .ok (.map (some w2.heap.size)) (w2.alloc (.map #[] 0)) := rfl
  go_wp2_with fail
  clear hmk
  go_loopw [41, 7] (fun i n w' => ∃ j : Nat, j ≤ l.length ∧ i = .int .i64 j ∧ n = .int .i64 (wuV (b + 1) - wuV a - freeN a b l j) ∧ Hid (Below w.heap.size w w') ∧ Hid (SeenM Try.prog 3 4 w' w2.heap.size (l.take j))) (fun i _ _ => l.length - (intOf i).toNat)
  case atStart => exact ⟨0, Nat.zero_le _, rfl, by simp [freeN], Lib.hid (below_alloc HD.out _), Lib.hid (by simpa using HM.out)⟩
  case round =>
    obtain ⟨j, hj, rfl, rfl, hbw, hseen⟩ := hrel
    by_cases hlt : j < l.length
    · obtain ⟨ad, e, hcell⟩ := HCL.out j hlt
      cases e
      rw [Int.toNat_natCast] at hcell
      replace hcell := (hbw.out.cell (World.block_lt_of_cell? w _ hcell)).trans hcell
      have hmem : rd l (j : Int) ∈ l := by
        unfold rd; rw [List.getD_eq_getElem?_getD]; simp [hlt]
      have hwf := HW.out _ hmem
      have htk := (take_rd l j hlt).symm
      have hsl : (l.take j).length < maxLen := Nat.lt_of_le_of_lt (Nat.le_trans (by rw [List.length_take]; omega) HL.out) (by decide : 1000 < maxLen)
      have hlook := hseen.out.look (mt := 106) Try.underlying3 Try.underlying4 Try.underlying106 (by rfl) hwf
      have hfl := freeN_le a b l j
      have hfs : freeN a b l (j + 1) = freeN a b l j + (if a ≤ rd l j ∧ rd l j ≤ b ∧ rd l j ∉ l.take j ∧ (rd l j + 5) % 7 < 5 then 1 else 0) := rfl
      have wj0 : (0 : Int) ≤ (j : Int) := Int.natCast_nonneg _
      have wj1 : (j : Int) < (l.length : Int) := by omega
      have wj2 : IntKind.i64.wrap ((j : Int) + 1) = (j : Int) + 1 := IntWalk.i64_in _ (by have := HL.out; omega)
      have wj3 : decide ((j : Int) < (l.length : Int)) = true := decide_eq_true wj1
      generalize hX : rd l (j : Int) = X at *
      have HWF := Lib.hid hwf; have HTK := Lib.hid htk; have HSL := Lib.hid hsl; have HFL := Lib.hid hfl; have HMEM := Lib.hid hmem; have HXX := Lib.hid hX; have HLT := Lib.hid hlt
      clear hwf htk hsl hfl hmem hX
      by_cases h1 : X ≥ a
      · have b1 : decide (X ≥ a) = true := decide_eq_true h1
        by_cases h2 : X ≤ b
        · have b2 : decide (X ≤ b) = true := decide_eq_true h2
          by_cases h3 : X ∈ l.take j
          · have b3 : decide (X ∈ l.take j) = true := decide_eq_true h3
            rw [b3] at hlook
            rw [if_neg (fun h => h.2.2.1 h3), Int.add_zero] at hfs
            have HF := Lib.hid hfs; clear hfs b3 h1 h2 h3
            obtain ⟨w9, hrun, hput, hgrow⟩ := SeenM.put (mt := 106) (hseen.out) Try.underlying3 Try.underlying4 Try.underlying106 (HSL.out) HWF.out
            have hbe := pw_below_grown (hbw.out) _ (Nat.le_trans HSZ.out (Nat.le_of_lt (SeenM.lt (hseen.out)))) hgrow (fun k hk => by cases hk; exact HSZ.out)
            rw [HTK.out] at hput
            have HBE := Lib.hid hbe; have HPUT := Lib.hid hput; clear hput hbe hgrow
            go_wp2_with fail
            go_roundw
            case rel => exact ⟨j + 1, by omega, by go_num, by rw [HF.out], HBE, HPUT⟩
            case measure => simp [intOf]; omega
          · have b3 : decide (X ∈ l.take j) = false := decide_eq_false h3
            rw [b3] at hlook
            have hwk := weekday_is X (dayB_iff.2 (by have := HA.out; have := HB2.out; omega))
            have HWK := Lib.hid hwk; clear hwk
            by_cases h4 : (X + 5) % 7 < 5
            · have b4 : decide ((X + 5) % 7 < 5) = true := decide_eq_true h4
              rw [if_pos ⟨h1, h2, h3, h4⟩] at hfs
              have wn : IntKind.i64.wrap (wuV (b + 1) - wuV a - freeN a b l j - 1) = wuV (b + 1) - wuV a - freeN a b l (j + 1) := by rw [IntWalk.i64_in _ (by have := HL.out; have := HFL.out; have := L1.out; have := L2.out; omega), hfs]; omega
              clear hfs b3 h1 h2 h3 h4
              go_wp2_with fail
              refine (impl_Weekday.calls _ _ _ HWK.out).mono ?_; rintro e w8 ⟨rfl, hd⟩; obtain ⟨q8, rfl⟩ := hd.out; clear hd
              obtain ⟨w9, hrun, hput, hgrow⟩ := SeenM.put (mt := 106) (hseen.out.drewN q8) Try.underlying3 Try.underlying4 Try.underlying106 (HSL.out) HWF.out
              have hbe := pw_below_grown (pw_below_drewN hbw.out q8) _ (Nat.le_trans HSZ.out (Nat.le_of_lt (SeenM.lt (hseen.out.drewN q8)))) hgrow (fun k hk => by cases hk; exact HSZ.out)
              rw [HTK.out] at hput
              have HBE := Lib.hid hbe; have HPUT := Lib.hid hput; clear hput hbe hgrow
              go_wp2_with fail
              go_roundw
              case rel => exact ⟨j + 1, by omega, by go_num, rfl, HBE, HPUT⟩
              case measure => simp [intOf]; omega
            · have b4 : decide ((X + 5) % 7 < 5) = false := decide_eq_false h4
              rw [if_neg (fun h => h4 h.2.2.2), Int.add_zero] at hfs
              have HF := Lib.hid hfs; clear hfs b3 h1 h2 h3 h4
              go_wp2_with fail
              refine (impl_Weekday.calls _ _ _ HWK.out).mono ?_; rintro e w8 ⟨rfl, hd⟩; obtain ⟨q8, rfl⟩ := hd.out; clear hd
              obtain ⟨w9, hrun, hput, hgrow⟩ := SeenM.put (mt := 106) (hseen.out.drewN q8) Try.underlying3 Try.underlying4 Try.underlying106 (HSL.out) HWF.out
              have hbe := pw_below_grown (pw_below_drewN hbw.out q8) _ (Nat.le_trans HSZ.out (Nat.le_of_lt (SeenM.lt (hseen.out.drewN q8)))) hgrow (fun k hk => by cases hk; exact HSZ.out)
              rw [HTK.out] at hput
              have HBE := Lib.hid hbe; have HPUT := Lib.hid hput; clear hput hbe hgrow
              go_wp2_with fail
              go_roundw
              case rel => exact ⟨j + 1, by omega, by go_num, by rw [HF.out], HBE, HPUT⟩
              case measure => simp [intOf]; omega
        · have b2 : decide (X ≤ b) = false := decide_eq_false h2
          rw [if_neg (fun h => h2 h.2.1), Int.add_zero] at hfs
          have HF := Lib.hid hfs; clear hfs h1 h2 hlook
          obtain ⟨w9, hrun, hput, hgrow⟩ := SeenM.put (mt := 106) (hseen.out) Try.underlying3 Try.underlying4 Try.underlying106 (HSL.out) HWF.out
          have hbe := pw_below_grown (hbw.out) _ (Nat.le_trans HSZ.out (Nat.le_of_lt (SeenM.lt (hseen.out)))) hgrow (fun k hk => by cases hk; exact HSZ.out)
          rw [HTK.out] at hput
          have HBE := Lib.hid hbe; have HPUT := Lib.hid hput; clear hput hbe hgrow
          go_wp2_with fail
          go_roundw
          case rel => exact ⟨j + 1, by omega, by go_num, by rw [HF.out], HBE, HPUT⟩
          case measure => simp [intOf]; omega
      · have b1 : decide (X ≥ a) = false := decide_eq_false h1
        rw [if_neg (fun h => h1 h.1), Int.add_zero] at hfs
        have HF := Lib.hid hfs; clear hfs h1 hlook
        obtain ⟨w9, hrun, hput, hgrow⟩ := SeenM.put (mt := 106) (hseen.out) Try.underlying3 Try.underlying4 Try.underlying106 (HSL.out) HWF.out
        have hbe := pw_below_grown (hbw.out) _ (Nat.le_trans HSZ.out (Nat.le_of_lt (SeenM.lt (hseen.out)))) hgrow (fun k hk => by cases hk; exact HSZ.out)
        rw [HTK.out] at hput
        have HBE := Lib.hid hbe; have HPUT := Lib.hid hput; clear hput hbe hgrow
        go_wp2_with fail
        go_roundw
        case rel => exact ⟨j + 1, by omega, by go_num, by rw [HF.out], HBE, HPUT⟩
        case measure => simp [intOf]; omega
    · obtain rfl : j = l.length := by omega
      have wj3 : decide ((l.length : Int) < (l.length : Int)) = false := decide_eq_false (by omega)
      go_wp2_with fail
      go_ret
      exact ⟨rfl, hbw.out⟩
set_option maxHeartbeats 4000000 in
set_option maxRecDepth 100000 in
theorem implWork_calls (a b : Int) (A2 : Option Addr) (c2 : Nat) (l : List Int) (w : World) (hr : Kd.C (Kd.int .i64) w A2 l.length l) (hc : l.length ≤ c2) (hw : ∀ x ∈ l, (Lit.int .i64 x).wf = true) :
    Calls Try.prog 21 #[.int .i64 a, .int .i64 b, .slice A2 l.length c2] w fun e w' => e = .returned (.int .i64 (implWorkV a b l)) ∧ Below w.heap.size w w' := by
  have hga := isDay_is a
  have hgb := isDay_is b
  cases ha : dayB a
  · rw [ha] at hga
    have e0 : implWorkV a b l = 0 := by unfold implWorkV; rw [ha]; rfl
    rw [e0]
    have HGA := Lib.hid hga; clear hga hgb ha e0 hr hc hw
    go_enter Try.func21, Try.ntmps21
    go_wp2_with fail
    refine (impl_isDay.calls _ _ _ HGA.out).mono ?_; rintro e w1 ⟨rfl, hd⟩; have HD := Lib.hid hd.below; clear hd
    go_wp2_with fail
    go_ret
    exact ⟨rfl, HD.out⟩
  cases hb : dayB b
  · rw [ha] at hga; rw [hb] at hgb
    have e0 : implWorkV a b l = 0 := by unfold implWorkV; rw [ha, hb]; rfl
    rw [e0]
    have HGA := Lib.hid hga; have HGB := Lib.hid hgb; clear hga hgb ha hb e0 hr hc hw
    go_enter Try.func21, Try.ntmps21
    go_wp2_with fail
    refine (impl_isDay.calls _ _ _ HGA.out).mono ?_; rintro e w1 ⟨rfl, hd⟩; have HD := Lib.hid hd.below; clear hd
    go_wp2_with fail
    refine (impl_isDay.calls _ _ _ HGB.out).mono ?_; rintro e w2 ⟨rfl, hd⟩; have HD2 := Lib.hid (below_step HD.out hd.below); clear hd
    go_wp2_with fail
    go_ret
    exact ⟨rfl, HD2.out⟩
  by_cases hl : l.length ≤ 1000
  · by_cases hab : b < a
    · have hup := fun w' => implWork_up b a A2 c2 l w'
      have ha' := dayB_iff.1 ha
      have hb' := dayB_iff.1 hb
      have hcw := coreW_le b a l (by omega) (by omega) hl
      have e0 : implWorkV a b l = -(coreW b a l) := by unfold implWorkV; rw [ha, hb, decide_eq_true hl, if_pos hab]; rfl
      rw [e0]
      have blen : decide ((l.length : Int) > 1000) = false := decide_eq_false (by omega)
      have bba : decide (b < a) = true := decide_eq_true hab
      have wn : IntKind.i64.wrap (-(coreW b a l)) = -(coreW b a l) := IntWalk.i64_in _ (by omega)
      rw [ha] at hga; rw [hb] at hgb
      have hcall := fun q : Nat => implWork_up b a A2 c2 l (w.drewN q) hr hc hw hl hb ha (by omega)
      have HGA := Lib.hid hga; have HGB := Lib.hid hgb; have HC := Lib.hid hcall; clear hga hgb ha hb ha' hb' e0 hr hc hw hup hcw hl hab hcall
      generalize coreW b a l = C at *
      go_enter Try.func21, Try.ntmps21
      go_wp2_with fail
      refine (impl_isDay.calls _ _ _ HGA.out).mono ?_; rintro e w1 ⟨rfl, hd⟩; obtain ⟨q1, rfl⟩ := hd.out; clear hd
      go_wp2_with fail
      refine (impl_isDay.calls _ _ _ HGB.out).mono ?_; rintro e w2 ⟨rfl, hd⟩; obtain ⟨q2, rfl⟩ := hd.out; clear hd
      go_wp2_with fail
      refine (HC.out _).mono ?_; rintro e w3 ⟨rfl, hd⟩; have HD := Lib.hid (below_step (pw_below_drewN (Below.refl w.heap.size w) (q1 + q2)) hd); clear hd
      go_wp2_with fail
      go_ret
      exact ⟨rfl, HD.out⟩
    · have e0 : implWorkV a b l = coreW a b l := by unfold implWorkV; rw [ha, hb, decide_eq_true hl, if_neg hab]; rfl
      rw [e0]
      exact implWork_up a b A2 c2 l w hr hc hw hl ha hb (by omega)
  · rw [ha] at hga; rw [hb] at hgb
    have e0 : implWorkV a b l = 0 := by unfold implWorkV; rw [ha, hb, decide_eq_false hl]; rfl
    rw [e0]
    have blen : decide ((l.length : Int) > 1000) = true := decide_eq_true (by omega)
    have HGA := Lib.hid hga; have HGB := Lib.hid hgb; clear hga hgb ha hb e0 hr hc hw hl
    go_enter Try.func21, Try.ntmps21
    go_wp2_with fail
    refine (impl_isDay.calls _ _ _ HGA.out).mono ?_; rintro e w1 ⟨rfl, hd⟩; have HD := Lib.hid hd.below; clear hd
    go_wp2_with fail
    refine (impl_isDay.calls _ _ _ HGB.out).mono ?_; rintro e w2 ⟨rfl, hd⟩; have HD2 := Lib.hid (below_step HD.out hd.below); clear hd
    go_wp2_with fail
    go_ret
    exact ⟨rfl, HD2.out⟩
def impl_Workdays.f (_k : Nat) (a0 : Int) (a1 : Int) (l2 : List Int) : Option Int := if ∀ x ∈ l2, (Lit.int .i64 x).wf = true then some (implWorkV a0 a1 l2) else none
theorem impl_Workdays.mono : ∀ a0 a1 a2 k, LeO (impl_Workdays.f k a0 a1 a2) (impl_Workdays.f (k + 1) a0 a1 a2) := fun _ _ _ _ => LeO.refl _
theorem impl_Workdays.calls (k : Nat) (a0 : Int) (a1 : Int) (A2 : Option Addr) (c2 : Nat) (l2 : List Int) (r : Int) (w : World) (hr2 : Kd.C (Kd.int .i64) w A2 l2.length l2) (hc2 : l2.length ≤ c2) (h : impl_Workdays.f k a0 a1 l2 = some r) :
    Calls Try.prog 21 #[.int .i64 a0, .int .i64 a1, .slice A2 l2.length c2] w fun e w' => e = .returned (.int .i64 r) ∧ Below w.heap.size w w' := by
  unfold impl_Workdays.f at h
  by_cases hw : ∀ x ∈ l2, (Lit.int .i64 x).wf = true
  · rw [if_pos hw] at h
    obtain rfl := Option.some.inj h
    exact implWork_calls a0 a1 A2 c2 l2 w hr2 hc2 hw
  · rw [if_neg hw] at h; cases h

/-! ### laws_eqIntS: function 22 -/
def laws_eqIntS.l0 : Nat → List Int → List Int → Int → Option (Bool)
  | 0, _, _, _ => none
  | k + 1, x0, x1, x5 => if x5 < (x0.length : Int) then (if 0 ≤ x5 then (if x5 < (x1.length : Int) then (if (rd x0 x5) = (rd x1 x5) then (laws_eqIntS.l0 k x0 x1 (wrap64 (x5 + 1))) else (some false)) else (none)) else (none)) else (some true)
def laws_eqIntS.f (k : Nat) (l0 : List Int) (l1 : List Int) : Option (Bool) := if (l0.length : Int) = (l1.length : Int) then (laws_eqIntS.l0 k l0 l1 0) else (some false)
theorem laws_eqIntS.mono_l : ∀ k, (∀ y0 y1 y2, LeO (laws_eqIntS.l0 k y0 y1 y2) (laws_eqIntS.l0 (k + 1) y0 y1 y2))
  | 0 => fun _ _ _ r h => by simp [laws_eqIntS.l0] at h
  | k + 1 => by
    have ih0 := laws_eqIntS.mono_l k
    · intro y0 y1 y2
      unfold laws_eqIntS.l0
      repeat' first
      | (with_reducible exact ih0 _ _ _)
      | (with_reducible exact LeO.refl _)
      | (with_reducible exact LeO.none _)
      | (with_reducible refine LeO.ite ?_ ?_)
      | (with_reducible refine LeO.bind ?_ (fun _ => ?_))
      | exact ih0 _ _ _
      | exact LeO.none _
      | refine LeO.ite ?_ ?_
      | refine LeO.bind ?_ (fun _ => ?_)
theorem laws_eqIntS.mono : ∀ a0 a1 k, LeO (laws_eqIntS.f k a0 a1) (laws_eqIntS.f (k + 1) a0 a1) := by
  intro a0 a1 k
  have ih0 := laws_eqIntS.mono_l k
  unfold laws_eqIntS.f
  repeat' first
      | (with_reducible exact ih0 _ _ _)
      | (with_reducible exact LeO.refl _)
      | (with_reducible exact LeO.none _)
      | (with_reducible refine LeO.ite ?_ ?_)
      | (with_reducible refine LeO.bind ?_ (fun _ => ?_))
      | exact ih0 _ _ _
      | exact LeO.none _
      | refine LeO.ite ?_ ?_
      | refine LeO.bind ?_ (fun _ => ?_)
set_option maxHeartbeats 8000000 in
set_option maxRecDepth 100000 in
theorem laws_eqIntS.calls (k : Nat) (A0 : Option Addr) (c0 : Nat) (l0 : List Int) (A1 : Option Addr) (c1 : Nat) (l1 : List Int) (r : Bool) (w : World) (hr0 : Kd.C (Kd.int .i64) w A0 l0.length l0) (hc0 : l0.length ≤ c0) (hr1 : Kd.C (Kd.int .i64) w A1 l1.length l1) (hc1 : l1.length ≤ c1) (h : laws_eqIntS.f k l0 l1 = some r) :
    Calls Try.prog 22 #[.slice A0 l0.length c0, .slice A1 l1.length c1] w fun e w' => e = .returned (.bool r) ∧ Drawn0 w w' := by
  have HR0 := Aside0.mk hr0
  have HC0 := Aside0.mk hc0
  clear hr0 hc0
  have HR1 := Aside0.mk hr1
  have HC1 := Aside0.mk hc1
  clear hr1 hc1
  have H : (if (l0.length : Int) = (l1.length : Int) then (laws_eqIntS.l0 k l0 l1 0) else (some false)) = some r := h
  clear h
  by_cases c3 : (l0.length : Int) = (l1.length : Int)
  · rw [if_pos c3] at H
    have c3b0 : ((l0.length : Int) == (l1.length : Int)) = true := beq_iff_eq.mpr c3
    have c3b1 : ((l0.length : Int) != (l1.length : Int)) = false := bne_eq_false_iff_eq.mpr c3
    have c3b2 : (l0.length == l1.length) = true := by first | simpa using c3 | (simp at c3 ⊢; omega)
    clear c3
    have H' := Aside0.mk H
    clear H
    go_enter Try.func22, Try.ntmps22
    go_wp2
    repeat (go_quiet (fail); try go_wp2)
    go_loopg [5] k (fun kq v5 w' => ∃ (x5_1 : Int), v5 = .int .i64 x5_1 ∧ Aside0 (laws_eqIntS.l0 kq l0 l1 x5_1 = some r) ∧ Aside0 (kq ≤ k) ∧ Drawn0 w w')
    case atStart => exact ⟨(0), (by first | rfl | (simp; done) | (simp [*]; done)), H', ⟨Nat.le_refl _⟩, by repeat (first | exact Drawn0.refl _ | apply Drawn0.step)⟩
    case round =>
      clear H'
      try clear c1
      try clear c2
      try clear p2
      try clear c3
      try clear c3b0
      try clear c3b1
      try clear c3b2
      obtain ⟨x5_1, rfl, HA, HK1, ⟨m1, rfl⟩⟩ := hrel
      cases gk with
      | zero => exact absurd HA.out (by simp [laws_eqIntS.l0])
      | succ k1 =>
        have H := HA.out
        clear HA
        simp only [laws_eqIntS.l0] at H
        by_cases c4 : x5_1 < (l0.length : Int)
        · rw [if_pos c4] at H
          have c4b0 : decide (x5_1 < (l0.length : Int)) = true := decide_eq_true c4
          clear c4
          by_cases c5 : 0 ≤ x5_1
          · rw [if_pos c5] at H
            have c5b0 : decide (0 ≤ x5_1) = true := decide_eq_true c5
            clear c5
            by_cases c6 : x5_1 < (l1.length : Int)
            · rw [if_pos c6] at H
              have c6b0 : decide (x5_1 < (l1.length : Int)) = true := decide_eq_true c6
              clear c6
              by_cases c7 : (rd l0 x5_1) = (rd l1 x5_1)
              · rw [if_pos c7] at H
                have c7b0 : ((rd l0 x5_1) == (rd l1 x5_1)) = true := beq_iff_eq.mpr c7
                have c7b1 : ((rd l0 x5_1) != (rd l1 x5_1)) = false := bne_eq_false_iff_eq.mpr c7
                clear c7
                have H' := Aside0.mk H
                clear H
                have p113 : 0 ≤ (x5_1 : Int) := of_decide_eq_true (by first | (with_reducible assumption) | assumption)
                have q113 : x5_1 < (l0.length : Int) := of_decide_eq_true (by first | (with_reducible assumption) | assumption)
                obtain ⟨ad113, e113, hx113_0⟩ := Kd.at_int HR0.out x5_1 p113 q113
                cases e113
                replace p113 := eq_true p113
                replace q113 := eq_true q113
                have p114 : 0 ≤ (x5_1 : Int) := of_decide_eq_true (by first | (with_reducible assumption) | assumption)
                have q114 : x5_1 < (l1.length : Int) := of_decide_eq_true (by first | (with_reducible assumption) | assumption)
                obtain ⟨ad114, e114, hx114_0⟩ := Kd.at_int HR1.out x5_1 p114 q114
                cases e114
                replace p114 := eq_true p114
                replace q114 := eq_true q114
                go_wp2
                repeat (go_quiet (fail); try go_wp2)
                go_roundg k1
                case measure => have := HK1.out; omega
                case rel => exact ⟨(wrap64 (x5_1 + 1)), (by first | rfl | (simp; done) | (simp [*]; done)), H', ⟨by have := HK1.out; omega⟩, by repeat (first | exact Drawn0.refl _ | apply Drawn0.step)⟩
              · rw [if_neg c7] at H
                have c7b0 : ((rd l0 x5_1) == (rd l1 x5_1)) = false := beq_eq_false_iff_ne.mpr c7
                have c7b1 : ((rd l0 x5_1) != (rd l1 x5_1)) = true := bne_iff_ne.mpr c7
                obtain rfl := Option.some.inj H
                have p113 : 0 ≤ (x5_1 : Int) := of_decide_eq_true (by first | (with_reducible assumption) | assumption)
                have q113 : x5_1 < (l0.length : Int) := of_decide_eq_true (by first | (with_reducible assumption) | assumption)
                obtain ⟨ad113, e113, hx113_0⟩ := Kd.at_int HR0.out x5_1 p113 q113
                cases e113
                replace p113 := eq_true p113
                replace q113 := eq_true q113
                have p114 : 0 ≤ (x5_1 : Int) := of_decide_eq_true (by first | (with_reducible assumption) | assumption)
                have q114 : x5_1 < (l1.length : Int) := of_decide_eq_true (by first | (with_reducible assumption) | assumption)
                obtain ⟨ad114, e114, hx114_0⟩ := Kd.at_int HR1.out x5_1 p114 q114
                cases e114
                replace p114 := eq_true p114
                replace q114 := eq_true q114
                go_wp2
                repeat (go_quiet (fail); try go_wp2)
                go_ret
                exact ⟨by first | rfl | (simp; done) | (simp [*]; done), by repeat (first | exact Drawn0.refl _ | apply Drawn0.step)⟩
            · rw [if_neg c6] at H
              exact absurd H (by simp)
          · rw [if_neg c5] at H
            exact absurd H (by simp)
        · rw [if_neg c4] at H
          have c4b0 : decide (x5_1 < (l0.length : Int)) = false := decide_eq_false c4
          clear c4
          obtain rfl := Option.some.inj H
          go_wp2
          repeat (go_quiet (fail); try go_wp2)
          go_ret
          exact ⟨by first | rfl | (simp; done) | (simp [*]; done), by repeat (first | exact Drawn0.refl _ | apply Drawn0.step)⟩
  · rw [if_neg c3] at H
    have c3b0 : ((l0.length : Int) == (l1.length : Int)) = false := beq_eq_false_iff_ne.mpr c3
    have c3b1 : ((l0.length : Int) != (l1.length : Int)) = true := bne_iff_ne.mpr c3
    have c3b2 : (l0.length == l1.length) = false := by first | simpa using c3 | (simp at c3 ⊢; omega)
    obtain rfl := Option.some.inj H
    go_enter Try.func22, Try.ntmps22
    go_wp2
    repeat (go_quiet (fail); try go_wp2)
    go_ret
    exact ⟨by first | rfl | (simp; done) | (simp [*]; done), by repeat (first | exact Drawn0.refl _ | apply Drawn0.step)⟩

/-! ### laws_FnExactWorkdays: function 4 -/
def laws_FnExactWorkdays.f (k : Nat) (a0 : Int) (a1 : Int) (l2 : List Int) : Option (Bool) := if (l2.length : Int) > 1048576 then (some true) else ((laws_toIntS.f k l2).bind fun t115 => ((spec_Workdays.f a0 a1 t115).bind fun t118 => ((laws_toIntS.f k l2).bind fun t119 => ((impl_Workdays.f k a0 a1 t119).bind fun t122 => (if t122 = t118 then ((laws_toIntS.f k l2).bind fun t123 => ((laws_eqIntS.f k t119 t123).bind fun t126 => (if t126 = true then (some true) else (some false)))) else (some false))))))
theorem laws_FnExactWorkdays.mono : ∀ a0 a1 a2 k, LeO (laws_FnExactWorkdays.f k a0 a1 a2) (laws_FnExactWorkdays.f (k + 1) a0 a1 a2) := by
  intro a0 a1 a2 k
  unfold laws_FnExactWorkdays.f
  repeat' first
      | (with_reducible exact impl_Workdays.mono _ _ _ _)
      | (with_reducible exact laws_eqIntS.mono _ _ _)
      | (with_reducible exact laws_toIntS.mono _ _)
      | (with_reducible exact LeO.refl _)
      | (with_reducible exact LeO.none _)
      | (with_reducible refine LeO.ite ?_ ?_)
      | (with_reducible refine LeO.bind ?_ (fun _ => ?_))
      | exact impl_Workdays.mono _ _ _ _
      | exact laws_eqIntS.mono _ _ _
      | exact laws_toIntS.mono _ _
      | exact LeO.none _
      | refine LeO.ite ?_ ?_
      | refine LeO.bind ?_ (fun _ => ?_)
set_option maxHeartbeats 8000000 in
set_option maxRecDepth 100000 in
theorem laws_FnExactWorkdays.calls (k : Nat) (a0 : Int) (a1 : Int) (A2 : Option Addr) (c2 : Nat) (l2 : List Int) (r : Bool) (w : World) (hr2 : Kd.C (Kd.int .i64) w A2 l2.length l2) (hc2 : l2.length ≤ c2) (h : laws_FnExactWorkdays.f k a0 a1 l2 = some r) :
    Calls Try.prog 4 #[.int .i64 a0, .int .i64 a1, .slice A2 l2.length c2] w fun e w' => e = .returned (.bool r) ∧ Below w.heap.size w w' := by
  have HR2 := Aside0.mk hr2
  have HC2 := Aside0.mk hc2
  clear hr2 hc2
  have HB := Aside0.mk (Below.refl w.heap.size w)
  have H : (if (l2.length : Int) > 1048576 then (some true) else ((laws_toIntS.f k l2).bind fun t115 => ((spec_Workdays.f a0 a1 t115).bind fun t118 => ((laws_toIntS.f k l2).bind fun t119 => ((impl_Workdays.f k a0 a1 t119).bind fun t122 => (if t122 = t118 then ((laws_toIntS.f k l2).bind fun t123 => ((laws_eqIntS.f k t119 t123).bind fun t126 => (if t126 = true then (some true) else (some false)))) else (some false))))))) = some r := h
  clear h
  by_cases c4 : (l2.length : Int) > 1048576
  · rw [if_pos c4] at H
    have c4b0 : decide (1048576 < (l2.length : Int)) = true := decide_eq_true c4
    have c4b1 : decide (1048576 < l2.length) = true := decide_eq_true (by omega)
    clear c4
    obtain rfl := Option.some.inj H
    go_enter Try.func4, Try.ntmps4
    go_wp2
    go_ret
    exact ⟨by first | rfl | (simp [errW_none, errW_some] <;> rfl) | (simp [*, errW_none, errW_some] <;> rfl), by repeat (first | (with_reducible first | exact HB.out | apply below_alloc | apply pw_below_drewN | apply below_drew1) | exact HB.out)⟩
  · rw [if_neg c4] at H
    have c4b0 : decide (1048576 < (l2.length : Int)) = false := decide_eq_false c4
    have c4b1 : decide (1048576 < l2.length) = false := decide_eq_false (by omega)
    clear c4
    replace H := Option.bind_eq_some_iff.mp H
    obtain ⟨t115, A50, H⟩ := H
    replace H : ((spec_Workdays.f a0 a1 t115).bind fun t118 => ((laws_toIntS.f k l2).bind fun t119 => ((impl_Workdays.f k a0 a1 t119).bind fun t122 => (if t122 = t118 then ((laws_toIntS.f k l2).bind fun t123 => ((laws_eqIntS.f k t119 t123).bind fun t126 => (if t126 = true then (some true) else (some false)))) else (some false))))) = some r := H
    have A5 := Aside0.mk A50
    clear A50
    replace H := Option.bind_eq_some_iff.mp H
    obtain ⟨t118, A60, H⟩ := H
    replace H : ((laws_toIntS.f k l2).bind fun t119 => ((impl_Workdays.f k a0 a1 t119).bind fun t122 => (if t122 = t118 then ((laws_toIntS.f k l2).bind fun t123 => ((laws_eqIntS.f k t119 t123).bind fun t126 => (if t126 = true then (some true) else (some false)))) else (some false)))) = some r := H
    have A6 := Aside0.mk A60
    clear A60
    replace H := Option.bind_eq_some_iff.mp H
    obtain ⟨t119, A70, H⟩ := H
    replace H : ((impl_Workdays.f k a0 a1 t119).bind fun t122 => (if t122 = t118 then ((laws_toIntS.f k l2).bind fun t123 => ((laws_eqIntS.f k t119 t123).bind fun t126 => (if t126 = true then (some true) else (some false)))) else (some false))) = some r := H
    have A7 := Aside0.mk A70
    clear A70
    replace H := Option.bind_eq_some_iff.mp H
    obtain ⟨t122, A80, H⟩ := H
    replace H : (if t122 = t118 then ((laws_toIntS.f k l2).bind fun t123 => ((laws_eqIntS.f k t119 t123).bind fun t126 => (if t126 = true then (some true) else (some false)))) else (some false)) = some r := H
    have A8 := Aside0.mk A80
    clear A80
    by_cases c9 : t122 = t118
    · rw [if_pos c9] at H
      have c9b0 : (t122 == t118) = true := beq_iff_eq.mpr c9
      have c9b1 : (t122 != t118) = false := bne_eq_false_iff_eq.mpr c9
      clear c9
      replace H := Option.bind_eq_some_iff.mp H
      obtain ⟨t123, A100, H⟩ := H
      replace H : ((laws_eqIntS.f k t119 t123).bind fun t126 => (if t126 = true then (some true) else (some false))) = some r := H
      have A10 := Aside0.mk A100
      clear A100
      replace H := Option.bind_eq_some_iff.mp H
      obtain ⟨t126, A110, H⟩ := H
      replace H : (if t126 = true then (some true) else (some false)) = some r := H
      have A11 := Aside0.mk A110
      clear A110
      by_cases c12 : t126 = true
      · subst c12
        have H1 : (some true) = some r := by rw [if_pos rfl] at H; exact H
        clear H
        have H := H1
        clear H1
        obtain rfl := Option.some.inj H
        go_enter Try.func4, Try.ntmps4
        go_wp2_with (first | ((with_reducible refine gate_callee (f := 20) rfl ?_); refine goesL_ (some 16) rfl rfl Try.func20 (by kernel_rfl) rfl #[.slice A2 l2.length c2] rfl (by (try simp only [List.map_toArray, List.map_cons, List.map_nil]); first | done | rfl | (simp only [List.length_drop, List.length_take]; rfl)) ?_; (with_reducible refine (laws_toIntS.calls k _ _ l2 t115 _ ?side1 ?side2 A5.out).mono ?_); (case side1 => repeat (first | exact HR2.out | (with_reducible refine Kd.C_alloc ?_ _) | (with_reducible refine Kd.C_drewN ?_ _) | (with_reducible refine Kd.C_drew ?_))); (case side2 => exact HC2.out); rintro e w13 ⟨v116, rfl, ho0, hb⟩; refine ⟨_, rfl, ?_⟩; have n0_ := Aside0.mk (Kd.R_lower ho0 (below_size (by repeat (first | (with_reducible first | exact HB.out | apply below_alloc | apply pw_below_drewN | apply below_drew1) | exact HB.out)))); have n1_ := Aside0.mk (below_step (by repeat (first | (with_reducible first | exact HB.out | apply below_alloc | apply pw_below_drewN | apply below_drew1) | exact HB.out)) hb); clear HB; have HO117 := n0_; have HB := n1_; clear n0_ n1_; (try clear hb); (try clear hb2); (try clear hk); (try clear hi); (try clear ho0); obtain ⟨Ao14, co14, eo14⟩ := Kd.R_slice HO117.out; subst eo14) | ((with_reducible refine gate_callee (f := 19) rfl ?_); refine goesL_ (some 17) rfl rfl Try.func19 (by kernel_rfl) rfl #[.int .i64 a0, .int .i64 a1, .slice Ao14 t115.length co14] rfl (by (try simp only [List.map_toArray, List.map_cons, List.map_nil]); first | done | rfl | (simp only [List.length_drop, List.length_take]; rfl)) ?_; (with_reducible refine (spec_Workdays.calls a0 a1 _ _ t115 t118 _ ?side1 ?side2 A6.out).mono ?_); (case side1 => repeat (first | exact (Kd.R_reads' HO117.out).2.2 | (with_reducible refine Kd.C_alloc ?_ _) | (with_reducible refine Kd.C_drewN ?_ _) | (with_reducible refine Kd.C_drew ?_))); (case side2 => exact (Kd.R_reads' HO117.out).2.1); rintro e w' ⟨rfl, ⟨nd, rfl⟩⟩; refine ⟨_, rfl, ?_⟩) | ((with_reducible refine gate_callee (f := 20) rfl ?_); refine goesL_ (some 19) rfl rfl Try.func20 (by kernel_rfl) rfl #[.slice A2 l2.length c2] rfl (by (try simp only [List.map_toArray, List.map_cons, List.map_nil]); first | done | rfl | (simp only [List.length_drop, List.length_take]; rfl)) ?_; (with_reducible refine (laws_toIntS.calls k _ _ l2 t119 _ ?side1 ?side2 A7.out).mono ?_); (case side1 => repeat (first | exact (Kd.C_below HR2.out (by repeat (first | (with_reducible first | exact HB.out | apply below_alloc | apply pw_below_drewN | apply below_drew1) | exact HB.out))) | (with_reducible refine Kd.C_alloc ?_ _) | (with_reducible refine Kd.C_drewN ?_ _) | (with_reducible refine Kd.C_drew ?_))); (case side2 => exact HC2.out); rintro e w15 ⟨v120, rfl, ho0, hb⟩; refine ⟨_, rfl, ?_⟩; have n0_ := Aside0.mk (Kd.R_elder' (by (with_reducible repeat (first | apply Kd.R_alloc | apply Kd.R_drewN | apply Kd.R_drew)); exact HO117.out) (Kd.R_base ho0) hb); have n1_ := Aside0.mk (Kd.R_lower (Kd.R_new' ho0 (Kd.R_lt (by (with_reducible repeat (first | apply Kd.R_alloc | apply Kd.R_drewN | apply Kd.R_drew)); exact HO117.out))) (below_size (by repeat (first | (with_reducible first | exact HB.out | apply below_alloc | apply pw_below_drewN | apply below_drew1) | exact HB.out)))); have n2_ := Aside0.mk (below_step (by repeat (first | (with_reducible first | exact HB.out | apply below_alloc | apply pw_below_drewN | apply below_drew1) | exact HB.out)) hb); clear HO117; clear HB; have HO117 := n0_; have HO121 := n1_; have HB := n2_; clear n0_ n1_ n2_; (try clear hb); (try clear hb2); (try clear hk); (try clear hi); (try clear ho0); obtain ⟨Ao16, co16, eo16⟩ := Kd.R_slice HO121.out; subst eo16) | ((with_reducible refine gate_callee (f := 21) rfl ?_); refine goesL_ (some 23) rfl rfl Try.func21 (by kernel_rfl) rfl #[.int .i64 a0, .int .i64 a1, .slice Ao16 t119.length co16] rfl (by (try simp only [List.map_toArray, List.map_cons, List.map_nil]); first | done | rfl | (simp only [List.length_drop, List.length_take]; rfl)) ?_; (with_reducible refine (impl_Workdays.calls k a0 a1 _ _ t119 t122 _ ?side1 ?side2 A8.out).mono ?_); (case side1 => repeat (first | exact (Kd.R_reads' HO121.out).2.2 | (with_reducible refine Kd.C_alloc ?_ _) | (with_reducible refine Kd.C_drewN ?_ _) | (with_reducible refine Kd.C_drew ?_))); (case side2 => exact (Kd.R_reads' HO121.out).2.1); rintro e w17 ⟨rfl, hb⟩; refine ⟨_, rfl, ?_⟩; have n0_ := Aside0.mk (Kd.R_below (by (with_reducible repeat (first | apply Kd.R_alloc | apply Kd.R_drewN | apply Kd.R_drew)); exact HO117.out) hb); have n1_ := Aside0.mk (Kd.R_below (by (with_reducible repeat (first | apply Kd.R_alloc | apply Kd.R_drewN | apply Kd.R_drew)); exact HO121.out) hb); have n2_ := Aside0.mk (below_step (by repeat (first | (with_reducible first | exact HB.out | apply below_alloc | apply pw_below_drewN | apply below_drew1) | exact HB.out)) hb); clear HO117; clear HO121; clear HB; have HO117 := n0_; have HO121 := n1_; have HB := n2_; clear n0_ n1_ n2_; (try clear hb); (try clear hb2); (try clear hk); (try clear hi)) | ((with_reducible refine gate_callee (f := 20) rfl ?_); refine goesL_ (some 29) rfl rfl Try.func20 (by kernel_rfl) rfl #[.slice A2 l2.length c2] rfl (by (try simp only [List.map_toArray, List.map_cons, List.map_nil]); first | done | rfl | (simp only [List.length_drop, List.length_take]; rfl)) ?_; (with_reducible refine (laws_toIntS.calls k _ _ l2 t123 _ ?side1 ?side2 A10.out).mono ?_); (case side1 => repeat (first | exact (Kd.C_below HR2.out HB.out) | (with_reducible refine Kd.C_alloc ?_ _) | (with_reducible refine Kd.C_drewN ?_ _) | (with_reducible refine Kd.C_drew ?_))); (case side2 => exact HC2.out); rintro e w18 ⟨v124, rfl, ho0, hb⟩; refine ⟨_, rfl, ?_⟩; have n0_ := Aside0.mk (Kd.R_elder' (by (with_reducible repeat (first | apply Kd.R_alloc | apply Kd.R_drewN | apply Kd.R_drew)); exact HO117.out) (Kd.R_base ho0) hb); have n1_ := Aside0.mk (Kd.R_elder' (by (with_reducible repeat (first | apply Kd.R_alloc | apply Kd.R_drewN | apply Kd.R_drew)); exact HO121.out) (Kd.R_base ho0) hb); have n2_ := Aside0.mk (Kd.R_lower (Kd.R_new' (Kd.R_new' ho0 (Kd.R_lt (by (with_reducible repeat (first | apply Kd.R_alloc | apply Kd.R_drewN | apply Kd.R_drew)); exact HO117.out))) (Kd.R_lt (by (with_reducible repeat (first | apply Kd.R_alloc | apply Kd.R_drewN | apply Kd.R_drew)); exact HO121.out))) (below_size (by repeat (first | (with_reducible first | exact HB.out | apply below_alloc | apply pw_below_drewN | apply below_drew1) | exact HB.out)))); have n3_ := Aside0.mk (below_step (by repeat (first | (with_reducible first | exact HB.out | apply below_alloc | apply pw_below_drewN | apply below_drew1) | exact HB.out)) hb); clear HO117; clear HO121; clear HB; have HO117 := n0_; have HO121 := n1_; have HO125 := n2_; have HB := n3_; clear n0_ n1_ n2_ n3_; (try clear hb); (try clear hb2); (try clear hk); (try clear hi); (try clear ho0); obtain ⟨Ao19, co19, eo19⟩ := Kd.R_slice HO125.out; subst eo19) | ((with_reducible refine gate_callee (f := 22) rfl ?_); refine goesL_ (some 30) rfl rfl Try.func22 (by kernel_rfl) rfl #[.slice Ao16 t119.length co16, .slice Ao19 t123.length co19] rfl (by (try simp only [List.map_toArray, List.map_cons, List.map_nil]); first | done | rfl | (simp only [List.length_drop, List.length_take]; rfl)) ?_; (with_reducible refine (laws_eqIntS.calls k _ _ t119 _ _ t123 true _ ?side1 ?side2 ?side3 ?side4 A11.out).mono ?_); (case side1 => repeat (first | exact (Kd.R_reads' HO121.out).2.2 | (with_reducible refine Kd.C_alloc ?_ _) | (with_reducible refine Kd.C_drewN ?_ _) | (with_reducible refine Kd.C_drew ?_))); (case side2 => exact (Kd.R_reads' HO121.out).2.1); (case side3 => repeat (first | exact (Kd.R_reads' HO125.out).2.2 | (with_reducible refine Kd.C_alloc ?_ _) | (with_reducible refine Kd.C_drewN ?_ _) | (with_reducible refine Kd.C_drew ?_))); (case side4 => exact (Kd.R_reads' HO125.out).2.1); rintro e w' ⟨rfl, ⟨nd, rfl⟩⟩; refine ⟨_, rfl, ?_⟩))
        go_ret
        exact ⟨by first | rfl | (simp [errW_none, errW_some] <;> rfl) | (simp [*, errW_none, errW_some] <;> rfl), by repeat (first | (with_reducible first | exact HB.out | apply below_alloc | apply pw_below_drewN | apply below_drew1) | exact HB.out)⟩
      · replace c12 := Bool.eq_false_iff.mpr c12
        subst c12
        have H1 : (some false) = some r := by rw [if_neg (show ¬ (false = true) by decide)] at H; exact H
        clear H
        have H := H1
        clear H1
        obtain rfl := Option.some.inj H
        go_enter Try.func4, Try.ntmps4
        go_wp2_with (first | ((with_reducible refine gate_callee (f := 20) rfl ?_); refine goesL_ (some 16) rfl rfl Try.func20 (by kernel_rfl) rfl #[.slice A2 l2.length c2] rfl (by (try simp only [List.map_toArray, List.map_cons, List.map_nil]); first | done | rfl | (simp only [List.length_drop, List.length_take]; rfl)) ?_; (with_reducible refine (laws_toIntS.calls k _ _ l2 t115 _ ?side1 ?side2 A5.out).mono ?_); (case side1 => repeat (first | exact HR2.out | (with_reducible refine Kd.C_alloc ?_ _) | (with_reducible refine Kd.C_drewN ?_ _) | (with_reducible refine Kd.C_drew ?_))); (case side2 => exact HC2.out); rintro e w20 ⟨v116, rfl, ho0, hb⟩; refine ⟨_, rfl, ?_⟩; have n0_ := Aside0.mk (Kd.R_lower ho0 (below_size (by repeat (first | (with_reducible first | exact HB.out | apply below_alloc | apply pw_below_drewN | apply below_drew1) | exact HB.out)))); have n1_ := Aside0.mk (below_step (by repeat (first | (with_reducible first | exact HB.out | apply below_alloc | apply pw_below_drewN | apply below_drew1) | exact HB.out)) hb); clear HB; have HO117 := n0_; have HB := n1_; clear n0_ n1_; (try clear hb); (try clear hb2); (try clear hk); (try clear hi); (try clear ho0); obtain ⟨Ao21, co21, eo21⟩ := Kd.R_slice HO117.out; subst eo21) | ((with_reducible refine gate_callee (f := 19) rfl ?_); refine goesL_ (some 17) rfl rfl Try.func19 (by kernel_rfl) rfl #[.int .i64 a0, .int .i64 a1, .slice Ao21 t115.length co21] rfl (by (try simp only [List.map_toArray, List.map_cons, List.map_nil]); first | done | rfl | (simp only [List.length_drop, List.length_take]; rfl)) ?_; (with_reducible refine (spec_Workdays.calls a0 a1 _ _ t115 t118 _ ?side1 ?side2 A6.out).mono ?_); (case side1 => repeat (first | exact (Kd.R_reads' HO117.out).2.2 | (with_reducible refine Kd.C_alloc ?_ _) | (with_reducible refine Kd.C_drewN ?_ _) | (with_reducible refine Kd.C_drew ?_))); (case side2 => exact (Kd.R_reads' HO117.out).2.1); rintro e w' ⟨rfl, ⟨nd, rfl⟩⟩; refine ⟨_, rfl, ?_⟩) | ((with_reducible refine gate_callee (f := 20) rfl ?_); refine goesL_ (some 19) rfl rfl Try.func20 (by kernel_rfl) rfl #[.slice A2 l2.length c2] rfl (by (try simp only [List.map_toArray, List.map_cons, List.map_nil]); first | done | rfl | (simp only [List.length_drop, List.length_take]; rfl)) ?_; (with_reducible refine (laws_toIntS.calls k _ _ l2 t119 _ ?side1 ?side2 A7.out).mono ?_); (case side1 => repeat (first | exact (Kd.C_below HR2.out (by repeat (first | (with_reducible first | exact HB.out | apply below_alloc | apply pw_below_drewN | apply below_drew1) | exact HB.out))) | (with_reducible refine Kd.C_alloc ?_ _) | (with_reducible refine Kd.C_drewN ?_ _) | (with_reducible refine Kd.C_drew ?_))); (case side2 => exact HC2.out); rintro e w22 ⟨v120, rfl, ho0, hb⟩; refine ⟨_, rfl, ?_⟩; have n0_ := Aside0.mk (Kd.R_elder' (by (with_reducible repeat (first | apply Kd.R_alloc | apply Kd.R_drewN | apply Kd.R_drew)); exact HO117.out) (Kd.R_base ho0) hb); have n1_ := Aside0.mk (Kd.R_lower (Kd.R_new' ho0 (Kd.R_lt (by (with_reducible repeat (first | apply Kd.R_alloc | apply Kd.R_drewN | apply Kd.R_drew)); exact HO117.out))) (below_size (by repeat (first | (with_reducible first | exact HB.out | apply below_alloc | apply pw_below_drewN | apply below_drew1) | exact HB.out)))); have n2_ := Aside0.mk (below_step (by repeat (first | (with_reducible first | exact HB.out | apply below_alloc | apply pw_below_drewN | apply below_drew1) | exact HB.out)) hb); clear HO117; clear HB; have HO117 := n0_; have HO121 := n1_; have HB := n2_; clear n0_ n1_ n2_; (try clear hb); (try clear hb2); (try clear hk); (try clear hi); (try clear ho0); obtain ⟨Ao23, co23, eo23⟩ := Kd.R_slice HO121.out; subst eo23) | ((with_reducible refine gate_callee (f := 21) rfl ?_); refine goesL_ (some 23) rfl rfl Try.func21 (by kernel_rfl) rfl #[.int .i64 a0, .int .i64 a1, .slice Ao23 t119.length co23] rfl (by (try simp only [List.map_toArray, List.map_cons, List.map_nil]); first | done | rfl | (simp only [List.length_drop, List.length_take]; rfl)) ?_; (with_reducible refine (impl_Workdays.calls k a0 a1 _ _ t119 t122 _ ?side1 ?side2 A8.out).mono ?_); (case side1 => repeat (first | exact (Kd.R_reads' HO121.out).2.2 | (with_reducible refine Kd.C_alloc ?_ _) | (with_reducible refine Kd.C_drewN ?_ _) | (with_reducible refine Kd.C_drew ?_))); (case side2 => exact (Kd.R_reads' HO121.out).2.1); rintro e w24 ⟨rfl, hb⟩; refine ⟨_, rfl, ?_⟩; have n0_ := Aside0.mk (Kd.R_below (by (with_reducible repeat (first | apply Kd.R_alloc | apply Kd.R_drewN | apply Kd.R_drew)); exact HO117.out) hb); have n1_ := Aside0.mk (Kd.R_below (by (with_reducible repeat (first | apply Kd.R_alloc | apply Kd.R_drewN | apply Kd.R_drew)); exact HO121.out) hb); have n2_ := Aside0.mk (below_step (by repeat (first | (with_reducible first | exact HB.out | apply below_alloc | apply pw_below_drewN | apply below_drew1) | exact HB.out)) hb); clear HO117; clear HO121; clear HB; have HO117 := n0_; have HO121 := n1_; have HB := n2_; clear n0_ n1_ n2_; (try clear hb); (try clear hb2); (try clear hk); (try clear hi)) | ((with_reducible refine gate_callee (f := 20) rfl ?_); refine goesL_ (some 29) rfl rfl Try.func20 (by kernel_rfl) rfl #[.slice A2 l2.length c2] rfl (by (try simp only [List.map_toArray, List.map_cons, List.map_nil]); first | done | rfl | (simp only [List.length_drop, List.length_take]; rfl)) ?_; (with_reducible refine (laws_toIntS.calls k _ _ l2 t123 _ ?side1 ?side2 A10.out).mono ?_); (case side1 => repeat (first | exact (Kd.C_below HR2.out HB.out) | (with_reducible refine Kd.C_alloc ?_ _) | (with_reducible refine Kd.C_drewN ?_ _) | (with_reducible refine Kd.C_drew ?_))); (case side2 => exact HC2.out); rintro e w25 ⟨v124, rfl, ho0, hb⟩; refine ⟨_, rfl, ?_⟩; have n0_ := Aside0.mk (Kd.R_elder' (by (with_reducible repeat (first | apply Kd.R_alloc | apply Kd.R_drewN | apply Kd.R_drew)); exact HO117.out) (Kd.R_base ho0) hb); have n1_ := Aside0.mk (Kd.R_elder' (by (with_reducible repeat (first | apply Kd.R_alloc | apply Kd.R_drewN | apply Kd.R_drew)); exact HO121.out) (Kd.R_base ho0) hb); have n2_ := Aside0.mk (Kd.R_lower (Kd.R_new' (Kd.R_new' ho0 (Kd.R_lt (by (with_reducible repeat (first | apply Kd.R_alloc | apply Kd.R_drewN | apply Kd.R_drew)); exact HO117.out))) (Kd.R_lt (by (with_reducible repeat (first | apply Kd.R_alloc | apply Kd.R_drewN | apply Kd.R_drew)); exact HO121.out))) (below_size (by repeat (first | (with_reducible first | exact HB.out | apply below_alloc | apply pw_below_drewN | apply below_drew1) | exact HB.out)))); have n3_ := Aside0.mk (below_step (by repeat (first | (with_reducible first | exact HB.out | apply below_alloc | apply pw_below_drewN | apply below_drew1) | exact HB.out)) hb); clear HO117; clear HO121; clear HB; have HO117 := n0_; have HO121 := n1_; have HO125 := n2_; have HB := n3_; clear n0_ n1_ n2_ n3_; (try clear hb); (try clear hb2); (try clear hk); (try clear hi); (try clear ho0); obtain ⟨Ao26, co26, eo26⟩ := Kd.R_slice HO125.out; subst eo26) | ((with_reducible refine gate_callee (f := 22) rfl ?_); refine goesL_ (some 30) rfl rfl Try.func22 (by kernel_rfl) rfl #[.slice Ao23 t119.length co23, .slice Ao26 t123.length co26] rfl (by (try simp only [List.map_toArray, List.map_cons, List.map_nil]); first | done | rfl | (simp only [List.length_drop, List.length_take]; rfl)) ?_; (with_reducible refine (laws_eqIntS.calls k _ _ t119 _ _ t123 false _ ?side1 ?side2 ?side3 ?side4 A11.out).mono ?_); (case side1 => repeat (first | exact (Kd.R_reads' HO121.out).2.2 | (with_reducible refine Kd.C_alloc ?_ _) | (with_reducible refine Kd.C_drewN ?_ _) | (with_reducible refine Kd.C_drew ?_))); (case side2 => exact (Kd.R_reads' HO121.out).2.1); (case side3 => repeat (first | exact (Kd.R_reads' HO125.out).2.2 | (with_reducible refine Kd.C_alloc ?_ _) | (with_reducible refine Kd.C_drewN ?_ _) | (with_reducible refine Kd.C_drew ?_))); (case side4 => exact (Kd.R_reads' HO125.out).2.1); rintro e w' ⟨rfl, ⟨nd, rfl⟩⟩; refine ⟨_, rfl, ?_⟩))
        go_ret
        exact ⟨by first | rfl | (simp [errW_none, errW_some] <;> rfl) | (simp [*, errW_none, errW_some] <;> rfl), by repeat (first | (with_reducible first | exact HB.out | apply below_alloc | apply pw_below_drewN | apply below_drew1) | exact HB.out)⟩
    · rw [if_neg c9] at H
      have c9b0 : (t122 == t118) = false := beq_eq_false_iff_ne.mpr c9
      have c9b1 : (t122 != t118) = true := bne_iff_ne.mpr c9
      obtain rfl := Option.some.inj H
      go_enter Try.func4, Try.ntmps4
      go_wp2_with (first | ((with_reducible refine gate_callee (f := 20) rfl ?_); refine goesL_ (some 16) rfl rfl Try.func20 (by kernel_rfl) rfl #[.slice A2 l2.length c2] rfl (by (try simp only [List.map_toArray, List.map_cons, List.map_nil]); first | done | rfl | (simp only [List.length_drop, List.length_take]; rfl)) ?_; (with_reducible refine (laws_toIntS.calls k _ _ l2 t115 _ ?side1 ?side2 A5.out).mono ?_); (case side1 => repeat (first | exact HR2.out | (with_reducible refine Kd.C_alloc ?_ _) | (with_reducible refine Kd.C_drewN ?_ _) | (with_reducible refine Kd.C_drew ?_))); (case side2 => exact HC2.out); rintro e w27 ⟨v116, rfl, ho0, hb⟩; refine ⟨_, rfl, ?_⟩; have n0_ := Aside0.mk (Kd.R_lower ho0 (below_size (by repeat (first | (with_reducible first | exact HB.out | apply below_alloc | apply pw_below_drewN | apply below_drew1) | exact HB.out)))); have n1_ := Aside0.mk (below_step (by repeat (first | (with_reducible first | exact HB.out | apply below_alloc | apply pw_below_drewN | apply below_drew1) | exact HB.out)) hb); clear HB; have HO117 := n0_; have HB := n1_; clear n0_ n1_; (try clear hb); (try clear hb2); (try clear hk); (try clear hi); (try clear ho0); obtain ⟨Ao28, co28, eo28⟩ := Kd.R_slice HO117.out; subst eo28) | ((with_reducible refine gate_callee (f := 19) rfl ?_); refine goesL_ (some 17) rfl rfl Try.func19 (by kernel_rfl) rfl #[.int .i64 a0, .int .i64 a1, .slice Ao28 t115.length co28] rfl (by (try simp only [List.map_toArray, List.map_cons, List.map_nil]); first | done | rfl | (simp only [List.length_drop, List.length_take]; rfl)) ?_; (with_reducible refine (spec_Workdays.calls a0 a1 _ _ t115 t118 _ ?side1 ?side2 A6.out).mono ?_); (case side1 => repeat (first | exact (Kd.R_reads' HO117.out).2.2 | (with_reducible refine Kd.C_alloc ?_ _) | (with_reducible refine Kd.C_drewN ?_ _) | (with_reducible refine Kd.C_drew ?_))); (case side2 => exact (Kd.R_reads' HO117.out).2.1); rintro e w' ⟨rfl, ⟨nd, rfl⟩⟩; refine ⟨_, rfl, ?_⟩) | ((with_reducible refine gate_callee (f := 20) rfl ?_); refine goesL_ (some 19) rfl rfl Try.func20 (by kernel_rfl) rfl #[.slice A2 l2.length c2] rfl (by (try simp only [List.map_toArray, List.map_cons, List.map_nil]); first | done | rfl | (simp only [List.length_drop, List.length_take]; rfl)) ?_; (with_reducible refine (laws_toIntS.calls k _ _ l2 t119 _ ?side1 ?side2 A7.out).mono ?_); (case side1 => repeat (first | exact (Kd.C_below HR2.out (by repeat (first | (with_reducible first | exact HB.out | apply below_alloc | apply pw_below_drewN | apply below_drew1) | exact HB.out))) | (with_reducible refine Kd.C_alloc ?_ _) | (with_reducible refine Kd.C_drewN ?_ _) | (with_reducible refine Kd.C_drew ?_))); (case side2 => exact HC2.out); rintro e w29 ⟨v120, rfl, ho0, hb⟩; refine ⟨_, rfl, ?_⟩; have n0_ := Aside0.mk (Kd.R_elder' (by (with_reducible repeat (first | apply Kd.R_alloc | apply Kd.R_drewN | apply Kd.R_drew)); exact HO117.out) (Kd.R_base ho0) hb); have n1_ := Aside0.mk (Kd.R_lower (Kd.R_new' ho0 (Kd.R_lt (by (with_reducible repeat (first | apply Kd.R_alloc | apply Kd.R_drewN | apply Kd.R_drew)); exact HO117.out))) (below_size (by repeat (first | (with_reducible first | exact HB.out | apply below_alloc | apply pw_below_drewN | apply below_drew1) | exact HB.out)))); have n2_ := Aside0.mk (below_step (by repeat (first | (with_reducible first | exact HB.out | apply below_alloc | apply pw_below_drewN | apply below_drew1) | exact HB.out)) hb); clear HO117; clear HB; have HO117 := n0_; have HO121 := n1_; have HB := n2_; clear n0_ n1_ n2_; (try clear hb); (try clear hb2); (try clear hk); (try clear hi); (try clear ho0); obtain ⟨Ao30, co30, eo30⟩ := Kd.R_slice HO121.out; subst eo30) | ((with_reducible refine gate_callee (f := 21) rfl ?_); refine goesL_ (some 23) rfl rfl Try.func21 (by kernel_rfl) rfl #[.int .i64 a0, .int .i64 a1, .slice Ao30 t119.length co30] rfl (by (try simp only [List.map_toArray, List.map_cons, List.map_nil]); first | done | rfl | (simp only [List.length_drop, List.length_take]; rfl)) ?_; (with_reducible refine (impl_Workdays.calls k a0 a1 _ _ t119 t122 _ ?side1 ?side2 A8.out).mono ?_); (case side1 => repeat (first | exact (Kd.R_reads' HO121.out).2.2 | (with_reducible refine Kd.C_alloc ?_ _) | (with_reducible refine Kd.C_drewN ?_ _) | (with_reducible refine Kd.C_drew ?_))); (case side2 => exact (Kd.R_reads' HO121.out).2.1); rintro e w31 ⟨rfl, hb⟩; refine ⟨_, rfl, ?_⟩; have n0_ := Aside0.mk (Kd.R_below (by (with_reducible repeat (first | apply Kd.R_alloc | apply Kd.R_drewN | apply Kd.R_drew)); exact HO117.out) hb); have n1_ := Aside0.mk (Kd.R_below (by (with_reducible repeat (first | apply Kd.R_alloc | apply Kd.R_drewN | apply Kd.R_drew)); exact HO121.out) hb); have n2_ := Aside0.mk (below_step (by repeat (first | (with_reducible first | exact HB.out | apply below_alloc | apply pw_below_drewN | apply below_drew1) | exact HB.out)) hb); clear HO117; clear HO121; clear HB; have HO117 := n0_; have HO121 := n1_; have HB := n2_; clear n0_ n1_ n2_; (try clear hb); (try clear hb2); (try clear hk); (try clear hi)))
      go_ret
      exact ⟨by first | rfl | (simp [errW_none, errW_some] <;> rfl) | (simp [*, errW_none, errW_some] <;> rfl), by repeat (first | (with_reducible first | exact HB.out | apply below_alloc | apply pw_below_drewN | apply below_drew1) | exact HB.out)⟩


end Go.Proofs.Ytaclplimbnihkaa.PFnExactWorkdays
