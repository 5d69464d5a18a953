/- Walks of impl.monthDays, impl.isDate, impl.dayCount and what calls them, over the table that the program lays; the callees by the printed contracts. Condition: the table's cells hold the months' lengths. -/
import Derived.Test.YtmpimcfmhpfkaaaDoorPFnExactAddMonthsx0
import Derived.Test.YtmpimcfmhpfkaaaDoorPFnExactAddMonthsx1
import Derived.Test.YtmpimcfmhpfkaaaDoorPFnExactAddMonthsx2
import Derived.Test.YtmpimcfmhpfkaaaDoorPFnExactAddMonthsx3
import Derived.Test.YtmpimcfmhpfkaaaDoorPFnExactAddMonthsx4
import Derived.Lib.Hide
namespace Go.Proofs.YtmpimcfmhpfkaaaDoor.PFnExactAddMonths
open Go.RowKit Go.Proofs.YtmpimcfmhpfkaaaDoorW.PrintWords Go.Proofs.YtmpimcfmhpfkaaaDoorW.PrintLast Go.Proofs.YtmpimcfmhpfkaaaDoorW.PrintMore
set_option linter.unusedVariables false
set_option linter.unusedSimpArgs false
/-! plain facts on whole numbers -/
theorem wrap_id {x : Int} (h1 : -9223372036854775808 ≤ x) (h2 : x ≤ 9223372036854775807) : wrap64 x = x := by
  unfold wrap64; omega
theorem td_pos {a b : Int} (h : 0 ≤ a) : a.tdiv b = a / b := Int.tdiv_eq_ediv_of_nonneg h
theorem td_neg {a b : Int} (h : a ≤ 0) : a.tdiv b = -((-a) / b) := by
  rw [← Int.tdiv_eq_ediv_of_nonneg (by omega : 0 ≤ -a), Int.neg_tdiv]; omega
theorem tm_pos {a b : Int} (h : 0 ≤ a) : a.tmod b = a % b := Int.tmod_eq_emod_of_nonneg h
theorem tm_neg {a b : Int} (h : a ≤ 0) : a.tmod b = -((-a) % b) := by
  rw [← Int.tmod_eq_emod_of_nonneg (by omega : 0 ≤ -a), Int.neg_tmod]; omega
theorem tm_zero (a b : Int) : a.tmod b = 0 ↔ a % b = 0 := by
  rw [← Int.dvd_iff_tmod_eq_zero, ← Int.dvd_iff_emod_eq_zero]
theorem ediv_is {a b q r : Int} (hb : 0 < b) (h : a = b * q + r) (h0 : 0 ≤ r) (h1 : r < b) : a / b = q := by
  rw [h, Int.add_comm, Int.add_mul_ediv_left _ _ (by omega), Int.ediv_eq_zero_of_lt h0 h1]; omega
theorem ediv_neg_of {a b : Int} (hb : 0 < b) (h : a.tmod b = 0) : a.tdiv b = a / b := by
  have e := Int.mul_tdiv_add_tmod a b
  rw [h] at e
  exact (ediv_is hb (q := a.tdiv b) (r := 0) (by omega) (by omega) hb).symm
theorem ediv_floor {a b : Int} (hb : 0 < b) (ha : a < 0) (h : a.tmod b ≠ 0) : a.tdiv b - 1 = a / b := by
  have e := Int.mul_tdiv_add_tmod a b
  have hm := tm_neg (a := a) (b := b) (by omega)
  have h0 := Int.emod_nonneg (-a) (by omega : b ≠ 0)
  have h1 := Int.emod_lt_of_pos (-a) hb
  refine (ediv_is hb (q := a.tdiv b - 1) (r := a.tmod b + b) ?_ (by omega) (by omega)).symm
  rw [Int.mul_sub]; omega
/-- The floor, as both programs reckon it. -/
theorem floor_is {a b : Int} (hb : 0 < b) (h1 : -4611686018427387904 ≤ a) (h2 : a ≤ 4611686018427387904) :
    (if b = 0 then (none) else (if (Int.tmod a b) = 0 then (some (wrap64 (Int.tdiv a b))) else (if ((decide (a < 0)) != (decide (b < 0))) = true then (some (wrap64 ((wrap64 (Int.tdiv a b)) - 1))) else (some (wrap64 (Int.tdiv a b)))))) = some (a / b) := by
  have hle : a / b ≤ 4611686018427387904 := by
    by_cases h : 0 ≤ a
    · exact Int.le_trans (Int.ediv_le_self b h) h2
    · have := Int.ediv_neg_of_neg_of_pos (by omega : a < 0) hb; omega
  have hge : -4611686018427387904 ≤ a / b := by
    by_cases h : 0 ≤ a
    · have := Int.ediv_nonneg h (by omega : 0 ≤ b); omega
    · exact Int.le_ediv_of_mul_le hb (by have : -4611686018427387904 * b ≤ -4611686018427387904 * 1 := by omega
                                         omega)
  rw [if_neg (by omega : ¬ b = 0)]
  by_cases hm : Int.tmod a b = 0
  · rw [if_pos hm, ediv_neg_of hb hm, wrap_id (by omega) (by omega)]
  · rw [if_neg hm]
    by_cases ha : a < 0
    · have e := ediv_floor hb ha hm
      rw [if_pos (by simp [ha]; omega), wrap_id (x := Int.tdiv a b) (by omega) (by omega), e, wrap_id (by omega) (by omega)]
    · rw [if_neg (by simp [ha]; omega), td_pos (by omega), wrap_id (by omega) (by omega)]

def ml (m : Int) : Int := if m = 2 then 28 else if m = 4 ∨ m = 6 ∨ m = 9 ∨ m = 11 then 30 else 31
def mdV (m : Int) (L : Bool) : Int := if m = 2 ∧ L = true then ml m + 1 else ml m

def Tab (w : World) : Prop := ∀ m : Int, 1 ≤ m → m ≤ 12 → w.cell? ⟨1, (m - 1).toNat, none⟩ = some (.int .i64 (ml m))
theorem Tab.below {w w' : World} (h : Tab w) (hb : Below w.heap.size w w') : Tab w' := fun m h1 h2 => pw_cell_below hb (h m h1 h2)
theorem quietD {P : Program} {f : FuncId} {args : Array Value} {w : World} {n : Nat} {v : Value} (h : Calls P f args (w.drewN n) fun e w' => e = .returned v ∧ Drawn0 (w.drewN n) w') :
    Calls P f args (w.drewN n) fun e w'' => e = .returned v ∧ ∃ m, w'' = w.drewN m := Calls.quiet_of (h.mono fun _ _ ⟨he, hd⟩ => ⟨he, hd.out⟩)
set_option maxHeartbeats 1000000 in
theorem monthDays_calls (c y m : Int) (w : World) (h1 : 1 ≤ m) (h2 : m ≤ 12) (hT : Tab w) (L : Bool) (hL : impl_leap.f c y = some L) :
    Calls Tryd.prog 33 #[.int .i64 c, .int .i64 y, .int .i64 m] w fun e w' => e = .returned (.int .i64 (mdV m L)) ∧ Drawn0 w w' := by
  rcases (by omega : m = 1 ∨ m = 2 ∨ m = 3 ∨ m = 4 ∨ m = 5 ∨ m = 6 ∨ m = 7 ∨ m = 8 ∨ m = 9 ∨ m = 10 ∨ m = 11 ∨ m = 12) with rfl | rfl | rfl | rfl | rfl | rfl | rfl | rfl | rfl | rfl | rfl | rfl
  case inr.inl =>
    have hc := hT _ h1 h2
    simp [ml] at hc
    cases L
    all_goals
      go_enter Tryd.func33, Tryd.ntmps33
      go_wp2_with (go_at_call 41; refine (impl_leap.calls _ _ _ _ hL).mono ?_; rintro e w' ⟨rfl, hd⟩)
      go_ret
      exact ⟨rfl, hd⟩
  all_goals
    have hc := hT _ h1 h2
    simp [ml] at hc
    go_enter Tryd.func33, Tryd.ntmps33
    go_wp2_with fail
    go_ret
    exact ⟨rfl, Drawn0.refl _⟩
def leapB (c y : Int) : Bool := decide (Int.tmod y 4 = 0 ∧ (c = 2 ∨ ¬ Int.tmod y 100 = 0 ∨ Int.tmod y 400 = 0))
def goodYearB (c y : Int) : Bool := decide ((c = 1 ∨ c = 2) ∧ -5000 ≤ y ∧ y ≤ 9999)
theorem implLeap_is (c y : Int) : impl_leap.f c y = some (leapB c y) := by
  unfold impl_leap.f leapB
  by_cases h4 : Int.tmod y 4 = 0
  · by_cases h2 : c = 2
    · simp [h4, h2]
    · by_cases h100 : Int.tmod y 100 = 0
      · simp [h4, h2, h100]; rw [Bool.eq_iff_iff]; simp
      · simp [h4, h2, h100]
  · simp [h4]
theorem implGoodYear_is (c y : Int) : impl_goodYear.f c y = some (goodYearB c y) := by
  unfold impl_goodYear.f goodYearB
  by_cases h1 : c = 1
  · by_cases h3 : -5000 ≤ y <;> simp [h1, h3]
  · by_cases h2 : c = 2
    · by_cases h3 : -5000 ≤ y <;> simp [h2, h3]
    · simp [h1, h2]

/-- What isDate says. -/
def isDateB (c y m d : Int) : Bool := decide (1 ≤ m ∧ m ≤ 12 ∧ 1 ≤ d) && (goodYearB c y && decide (d ≤ mdV m (leapB c y)))
set_option maxHeartbeats 4000000 in
theorem isDate_calls (c y m d : Int) (w : World) (hT : Tab w) :
    Calls Tryd.prog 29 #[.int .i64 c, .agg #[.int .i64 y, .int .i64 m, .int .i64 d]] w fun e w' => e = .returned (.bool (isDateB c y m d)) ∧ Below w.heap.size w w' := by
  have hG := implGoodYear_is c y
  have hL := implLeap_is c y
  have hbx : ∀ n, Below w.heap.size w ((w.alloc (.cells #[.int .i64 y, .int .i64 m, .int .i64 d] 35)).drewN n) := fun n => pw_below_drewN (below_alloc (Below.refl _ _) _) n
  have HB := Lib.hid hbx; clear hbx
  by_cases h1 : 1 ≤ m
  · have b1 : decide (1 ≤ m) = true := decide_eq_true h1
    by_cases h2 : m ≤ 12
    · have b2 : decide (m ≤ 12) = true := decide_eq_true h2
      by_cases h3 : 1 ≤ d
      · have b3 : decide (1 ≤ d) = true := decide_eq_true h3
        cases hg : goodYearB c y
        · have e0 : isDateB c y m d = false := by unfold isDateB; rw [hg]; simp
          rw [e0]
          rw [hg] at hG
          have HG := Lib.hid hG; have HT := Lib.hid hT; clear hG hL hg e0 hT
          go_enter Tryd.func29, Tryd.ntmps29
          go_wp2_with fail
          go_quiet ((go_at_call 32; exact quietD (impl_goodYear.calls _ _ _ _ HG.out)))
          go_wp2_with fail
          go_ret
          exact ⟨rfl, HB.out _⟩
        · have e0 : isDateB c y m d = decide (d ≤ mdV m (leapB c y)) := by unfold isDateB; rw [hg, decide_eq_true ⟨h1, h2, h3⟩]; simp
          rw [e0]
          rw [hg] at hG
          generalize hL2 : leapB c y = L at *
          generalize hM : mdV m L = M
          have hmd : ∀ w', Tab w' → Calls Tryd.prog 33 #[.int .i64 c, .int .i64 y, .int .i64 m] w' fun e w'' => e = .returned (.int .i64 M) ∧ Drawn0 w' w'' := fun w' h => by rw [← hM]; exact monthDays_calls _ _ _ _ h1 h2 h _ hL
          have HMD := Lib.hid hmd; clear hmd
          have HG := Lib.hid hG; have HL := Lib.hid hL; have HT := Lib.hid hT; have HM := Lib.hid hM; clear hG hL hg e0 hL2 hT hM
          go_enter Tryd.func29, Tryd.ntmps29
          go_wp2_with fail
          go_quiet (first
            | (go_at_call 32; exact quietD (impl_goodYear.calls _ _ _ _ HG.out))
            | (go_at_call 33; exact quietD (HMD.out _ (HT.out.below (HB.out _)))))
          go_wp2_with fail
          go_ret
          exact ⟨rfl, HB.out _⟩
      · have b3 : decide (1 ≤ d) = false := decide_eq_false h3
        have e0 : isDateB c y m d = false := by unfold isDateB; rw [decide_eq_false (fun h => h3 h.2.2)]; rfl
        rw [e0]
        clear e0 hG hL hT
        go_enter Tryd.func29, Tryd.ntmps29
        go_wp2_with fail
        go_quiet (fail)
        go_wp2_with fail
        go_ret
        exact ⟨rfl, HB.out _⟩
    · have b2 : decide (m ≤ 12) = false := decide_eq_false h2
      have e0 : isDateB c y m d = false := by unfold isDateB; rw [decide_eq_false (fun h => h2 h.2.1)]; rfl
      rw [e0]
      clear e0 hG hL hT
      go_enter Tryd.func29, Tryd.ntmps29
      go_wp2_with fail
      go_quiet (fail)
      go_wp2_with fail
      go_ret
      exact ⟨rfl, HB.out _⟩
  · have b1 : decide (1 ≤ m) = false := decide_eq_false h1
    have e0 : isDateB c y m d = false := by unfold isDateB; rw [decide_eq_false (fun h => h1 h.1)]; rfl
    rw [e0]
    clear e0 hG hL hT
    go_enter Tryd.func29, Tryd.ntmps29
    go_wp2_with fail
    go_quiet (fail)
    go_wp2_with fail
    go_ret
    exact ⟨rfl, HB.out _⟩
/-- The days of the months ahead of the m-th. -/
def sumM (L : Bool) : Nat → Int
  | 0 => 0
  | 1 => 0
  | n + 2 => sumM L (n + 1) + mdV ((n + 1 : Nat) : Int) L
theorem sumM_succ (L : Bool) (n : Nat) (h : 1 ≤ n) : sumM L (n + 1) = sumM L n + mdV (n : Int) L := by
  obtain ⟨n, rfl⟩ : ∃ j, n = j + 1 := ⟨n - 1, by omega⟩
  rfl
theorem ml_le (m : Int) : 28 ≤ ml m ∧ ml m ≤ 31 := by unfold ml; split <;> (try split) <;> omega
theorem mdV_le (m : Int) (L : Bool) : 28 ≤ mdV m L ∧ mdV m L ≤ 31 := by
  unfold mdV; split
  · rename_i h; unfold ml; rw [if_pos h.1]; omega
  · exact ml_le m
theorem sumM_le (L : Bool) : ∀ n : Nat, 0 ≤ sumM L n ∧ sumM L n ≤ 31 * n
  | 0 => by simp [sumM]
  | 1 => by simp [sumM]
  | n + 2 => by
    have := sumM_le L (n + 1); have := mdV_le ((n + 1 : Nat) : Int) L
    simp only [sumM]; omega
/-- How many days lie ahead of a year's first one, from the year 0 on. -/
def ysV (c y : Int) : Int := if c = 1 then 365 * y + (y + 3) / 4 - (y + 99) / 100 + (y + 399) / 400 else 365 * y + (y + 3) / 4
theorem floorDiv_is (a b : Int) (hb : 0 < b) (h1 : -4611686018427387904 ≤ a) (h2 : a ≤ 4611686018427387904) : impl_floorDiv_int.f a b = some (a / b) := by
  unfold impl_floorDiv_int.f; exact floor_is hb h1 h2
def dcV (c y m d : Int) : Int := ysV c y + d - 1 + sumM (leapB c y) m.toNat
theorem bcell {W w1 : World} (hb : Below W.heap.size W w1) : (∀ b o, b < W.heap.size → w1.cell? ⟨b, o, none⟩ = W.cell? ⟨b, o, none⟩) ∧ (∀ b o, b < W.heap.size → w1.frozen? ⟨b, o, none⟩ = W.frozen? ⟨b, o, none⟩) :=
  ⟨fun b o h => hb.cell (p := ⟨b, o, none⟩) h, fun b o h => hb.frozen (p := ⟨b, o, none⟩) h⟩
/-- The day from which each calendar counts. -/
def bdV (c : Int) : Int := if c = 1 then 730485 else 730487
theorem isDate_facts {c y m d : Int} (h : isDateB c y m d = true) : (c = 1 ∨ c = 2) ∧ -5000 ≤ y ∧ y ≤ 9999 ∧ 1 ≤ m ∧ m ≤ 12 ∧ 1 ≤ d ∧ d ≤ 31 := by
  unfold isDateB goodYearB at h
  simp only [Bool.and_eq_true, decide_eq_true_eq] at h
  have := mdV_le m (leapB c y)
  omega
end Go.Proofs.YtmpimcfmhpfkaaaDoor.PFnExactAddMonths
