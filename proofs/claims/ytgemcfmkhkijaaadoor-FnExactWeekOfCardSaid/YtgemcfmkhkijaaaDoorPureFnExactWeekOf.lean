/- The plain law of FnExactWeekOf: what the program computes is what the reference computes, for every input (no further condition). -/
import Derived.Test.YtgemcfmkhkijaaaDoorMFnExactWeekOfa2
namespace Go.Proofs.YtgemcfmkhkijaaaDoor.Pure
open Go.RowKit Go.Proofs.YtgemcfmkhkijaaaDoor.PFnExactWeekOf Go.Proofs.YtgemcfmkhkijaaaDoorW.PrintWords Go.Proofs.YtgemcfmkhkijaaaDoorW.PrintLast

set_option linter.unusedVariables false
set_option linter.unusedSimpArgs false
def leapB (c y : Int) : Bool := decide (Int.tmod y 4 = 0 ∧ (c = 2 ∨ ¬ Int.tmod y 100 = 0 ∨ Int.tmod y 400 = 0))
theorem implLeap_is (c y : Int) : impl_leap.f c y = some (leapB c y) := by
  unfold impl_leap.f leapB
  by_cases h4 : Int.tmod y 4 = 0
  · by_cases h2 : c = 2
    · simp [h4, h2]
    · by_cases h100 : Int.tmod y 100 = 0
      · simp [h4, h2, h100]; rw [Bool.eq_iff_iff]; simp
      · simp [h4, h2, h100]
  · simp [h4]

def sumM (L : Bool) : Nat → Int
  | 0 => 0
  | 1 => 0
  | n + 2 => sumM L (n + 1) + mdV ((n + 1 : Nat) : Int) L
theorem sumM_succ (L : Bool) (n : Nat) (h : 1 ≤ n) : sumM L (n + 1) = sumM L n + mdV (n : Int) L := by
  obtain ⟨n, rfl⟩ : ∃ j, n = j + 1 := ⟨n - 1, by omega⟩
  rfl
theorem ml_le (m : Int) : 28 ≤ ml m ∧ ml m ≤ 31 := by unfold ml; split <;> (try split) <;> omega
theorem mdV_le (m : Int) (L : Bool) : 28 ≤ mdV m L ∧ mdV m L ≤ 31 := by
  unfold mdV; split
  · rename_i h; unfold ml; rw [if_pos h.1]; omega
  · exact ml_le m
theorem sumM_le (L : Bool) : ∀ n : Nat, 0 ≤ sumM L n ∧ sumM L n ≤ 31 * n
  | 0 => by simp [sumM]
  | 1 => by simp [sumM]
  | n + 2 => by
    have := sumM_le L (n + 1); have := mdV_le ((n + 1 : Nat) : Int) L
    simp only [sumM]; omega
/-- How many days lie ahead of a year's first one, from the year 0 on. -/
def ysV (c y : Int) : Int := if c = 1 then 365 * y + (y + 3) / 4 - (y + 99) / 100 + (y + 399) / 400 else 365 * y + (y + 3) / 4
theorem floorDiv_is (a b : Int) (hb : 0 < b) (h1 : -4611686018427387904 ≤ a) (h2 : a ≤ 4611686018427387904) : impl_floorDiv_int.f a b = some (a / b) := by
  unfold impl_floorDiv_int.f; exact floor_is hb h1 h2

theorem yearStart_is (c y : Int) (h1 : -100000 ≤ y) (h2 : y ≤ 100000) : impl_yearStart.f c y = some (ysV c y) := by
  unfold impl_yearStart.f ysV
  rw [wrap_id (x := 365 * y) (by omega) (by omega), wrap_id (x := y + 3) (by omega) (by omega), floorDiv_is (y + 3) 4 (by omega) (by omega) (by omega)]
  simp only [Option.bind_some]
  rw [wrap_id (x := y + 99) (by omega) (by omega), floorDiv_is (y + 99) 100 (by omega) (by omega) (by omega)]
  simp only [Option.bind_some]
  rw [wrap_id (x := y + 399) (by omega) (by omega), floorDiv_is (y + 399) 400 (by omega) (by omega) (by omega)]
  simp only [Option.bind_some]
  rw [wrap_id (x := 365 * y + (y + 3) / 4) (by omega) (by omega), wrap_id (x := -((y + 99) / 100)) (by omega) (by omega), wrap_id (x := -((y + 99) / 100) + (y + 399) / 400) (by omega) (by omega), wrap_id (x := 365 * y + (y + 3) / 4 + (-((y + 99) / 100) + (y + 399) / 400)) (by omega) (by omega)]
  split <;> (congr 1; try omega)

theorem l2Mod_is (a b : Int) (hb : 0 < b) (hb2 : b ≤ 1000) (h1 : -1000000000 ≤ a) (h2 : a ≤ 1000000000) : spec_l2Mod.f a b = some (a % b) := by
  unfold spec_l2Mod.f spec_l2Floor.f
  rw [floor_is hb (by omega) (by omega)]
  simp only [Option.bind_some]
  have e := Int.mul_ediv_add_emod a b
  have h0 := Int.emod_nonneg a (by omega : b ≠ 0)
  have h1 := Int.emod_lt_of_pos a hb
  rw [wrap_id (x := b * (a / b)) (by omega) (by omega), wrap_id (by omega) (by omega)]
  congr 1; omega
theorem specLeap_is (c y : Int) (h1 : -1000000000 ≤ y) (h2 : y ≤ 1000000000) : spec_l2Leap.f c y = some (leapB c y) := by
  unfold spec_l2Leap.f leapB
  rw [l2Mod_is y 4 (by omega) (by omega) h1 h2, l2Mod_is y 100 (by omega) (by omega) h1 h2, l2Mod_is y 400 (by omega) (by omega) h1 h2]
  simp only [Option.bind_some, tm_zero]
  have b4 : ((y % 4) == 0) = decide (y % 4 = 0) := by rw [Bool.eq_iff_iff]; simp
  have b400 : ((y % 400) == 0) = decide (y % 400 = 0) := by rw [Bool.eq_iff_iff]; simp
  rw [b4, b400]
  by_cases hc : c = 2
  · simp [hc]
  · by_cases h4 : y % 4 = 0
    · by_cases h100 : y % 100 = 0
      · simp [hc, h4, h100]
      · simp [hc, h4, h100]
    · have : ¬ y % 400 = 0 := by omega
      simp [hc, h4, this]

theorem rd_months (m : Int) (h1 : 1 ≤ m) (h2 : m ≤ 12) : rd [31, 28, 31, 30, 31, 30, 31, 31, 30, 31, 30, 31] (m - 1) = ml m := by
  rcases (by omega : m = 1 ∨ m = 2 ∨ m = 3 ∨ m = 4 ∨ m = 5 ∨ m = 6 ∨ m = 7 ∨ m = 8 ∨ m = 9 ∨ m = 10 ∨ m = 11 ∨ m = 12) with rfl | rfl | rfl | rfl | rfl | rfl | rfl | rfl | rfl | rfl | rfl | rfl <;> rfl
theorem specMonthDays1_is (c y m : Int) (h1 : -1000000000 ≤ y) (h2 : y ≤ 1000000000) (m1 : 1 ≤ m) (m2 : m ≤ 12) : spec_l2MonthDays.f c y m = some (mdV m (leapB c y)) := by
  unfold spec_l2MonthDays.f mdV
  have hm := ml_le m
  simp only [Option.bind_some]
  rw [wrap_id (x := m - 1) (by omega) (by omega), if_pos (by omega), if_pos (by simp; omega), specLeap_is c y h1 h2, rd_months m m1 m2]
  simp only [Option.bind_some]
  rw [wrap_id (x := ml m + 1) (by omega) (by omega)]
  by_cases e : m = 2
  · cases leapB c y <;> simp [e]
  · simp [e]

/-- The day from which each calendar counts. -/
def bdV (c : Int) : Int := if c = 1 then 730485 else 730487
theorem specFloor_is (a b : Int) (hb : 0 < b) (h1 : -4611686018427387904 ≤ a) (h2 : a ≤ 4611686018427387904) : spec_l2Floor.f a b = some (a / b) := by
  unfold spec_l2Floor.f; exact floor_is hb h1 h2
/-- The reference's days to a year are the program's, counted from another day. -/
theorem specDays_is (c y : Int) (hc : c = 1 ∨ c = 2) (h1 : -100000 ≤ y) (h2 : y ≤ 100000) : spec_l2Days.f c y = some (ysV c y - bdV c - if c = 2 then 13 else 0) := by
  unfold spec_l2Days.f ysV bdV
  rw [wrap_id (x := y - 1) (by omega) (by omega), specFloor_is (y - 1) 4 (by omega) (by omega) (by omega)]
  simp only [Option.bind_some]
  rw [specFloor_is (y - 1) 100 (by omega) (by omega) (by omega)]
  simp only [Option.bind_some]
  rw [specFloor_is (y - 1) 400 (by omega) (by omega) (by omega)]
  simp only [Option.bind_some]
  rw [wrap_id (x := y - 2000) (by omega) (by omega), wrap_id (x := (y - 2000) * 365) (by omega) (by omega), wrap_id (x := -((y - 1) / 100)) (by omega) (by omega), wrap_id (x := -((y - 1) / 100) + (y - 1) / 400) (by omega) (by omega), wrap_id (x := (y - 1) / 4 + (-((y - 1) / 100) + (y - 1) / 400)) (by omega) (by omega)]
  rw [wrap_id (x := (y - 2000) * 365 + ((y - 1) / 4 + (-((y - 1) / 100) + (y - 1) / 400))) (by omega) (by omega), wrap_id (x := (y - 2000) * 365 + ((y - 1) / 4 + (-((y - 1) / 100) + (y - 1) / 400)) - 484) (by omega) (by omega), wrap_id (x := (y - 2000) * 365 + (y - 1) / 4) (by omega) (by omega), wrap_id (x := (y - 2000) * 365 + (y - 1) / 4 - 499) (by omega) (by omega)]
  rcases hc with rfl | rfl
  · rw [if_pos rfl, if_pos rfl, if_pos rfl, if_neg (by omega)]; congr 1; omega
  · rw [if_neg (by omega), if_neg (by omega), if_neg (by omega), if_pos rfl]; congr 1; omega

theorem specFirst_is (c y : Int) (hc : c = 1 ∨ c = 2) (h1 : -100000 ≤ y) (h2 : y ≤ 100000) : spec_l2First.f c y = some (ysV c y - bdV c, true) := by
  unfold spec_l2First.f
  rw [specDays_is c y hc h1 h2]
  have hb : -40000000 ≤ ysV c y ∧ ysV c y ≤ 40000000 := by unfold ysV; split <;> omega
  have hbb : 730485 ≤ bdV c ∧ bdV c ≤ 730487 := by unfold bdV; split <;> omega
  simp only [Option.bind_some]
  rcases hc with rfl | rfl
  · rw [if_neg (by omega), if_neg (by omega)]; congr 2; omega
  · rw [if_pos rfl, if_pos rfl, wrap_id (by omega) (by omega)]; congr 2; omega
theorem ysV_step (c y : Int) : ysV c y + 365 ≤ ysV c (y + 1) := by
  unfold ysV; split <;> omega
theorem ysV_len (c y : Int) (hc : c = 1 ∨ c = 2) : ysV c (y + 1) - ysV c y = sumM (leapB c y) 13 := by
  have e : sumM (leapB c y) 13 = if leapB c y = true then 366 else 365 := by cases leapB c y <;> rfl
  rw [e]
  unfold leapB ysV
  simp only [decide_eq_true_eq, tm_zero]
  rcases hc with rfl | rfl
  · rw [if_pos rfl, if_pos rfl]; split <;> omega
  · rw [if_neg (by omega), if_neg (by omega)]; split <;> omega
theorem ysV_mono (c : Int) (y : Int) : ∀ t : Nat, ysV c y + 365 * t ≤ ysV c (y + t)
  | 0 => by simp
  | t + 1 => by
    have := ysV_mono c y t; have h := ysV_step c (y + t)
    rw [show y + ((t + 1 : Nat) : Int) = y + t + 1 from by omega]; omega
theorem ysV_le (c : Int) {y z : Int} (h : y ≤ z) : ysV c y ≤ ysV c z := by
  obtain ⟨t, rfl⟩ : ∃ t : Nat, z = y + t := ⟨(z - y).toNat, by omega⟩
  have := ysV_mono c y t; omega
/-- The year of a day: the only one whose first day lies not behind it and whose next one's does. -/
theorem year_ex (c n : Int) (h1 : -300000 ≤ n) (h2 : n ≤ 1800000) : ∃ y, ysV c y ≤ n ∧ n < ysV c (y + 1) ∧ -1000 ≤ y ∧ y < 6000 := by
  have lo : ysV c (-1000) ≤ n := by have : ysV c (-1000) ≤ -300000 := by unfold ysV; split <;> omega
                                    omega
  have hi : n < ysV c 6000 := by have : 1800000 < ysV c 6000 := by unfold ysV; split <;> omega
                                 omega
  have g : ∀ t : Nat, n < ysV c (-1000 + t) → ∃ y, ysV c y ≤ n ∧ n < ysV c (y + 1) ∧ -1000 ≤ y ∧ y < -1000 + t := by
    intro t
    induction t with
    | zero => intro h; simp at h; omega
    | succ t ih =>
      intro h
      by_cases h0 : n < ysV c (-1000 + t)
      · obtain ⟨y, a, b, d, e⟩ := ih h0; exact ⟨y, a, b, d, by omega⟩
      · exact ⟨-1000 + t, by omega, by rw [show (-1000 : Int) + t + 1 = -1000 + ((t + 1 : Nat) : Int) from by omega]; exact h, by omega, by omega⟩
  obtain ⟨y, a, b, d, e⟩ := g 7000 (by rw [show (-1000 : Int) + ((7000 : Nat) : Int) = 6000 from by omega]; exact hi)
  exact ⟨y, a, b, d, by omega⟩
/-- The month and the day of what is left of a year, from month m on. -/
def moV (L : Bool) : Nat → Int → Int → Int × Int
  | 0, left, m => (m, left + 1)
  | t + 1, left, m => if left ≥ mdV m L then moV L t (left - mdV m L) (m + 1) else (m, left + 1)
theorem ev_up {ρ : Type} {F : Nat → Int → Option ρ} {r : ρ} (y z : Int) (h : y ≤ z) (hs : ∀ x, y ≤ x → x < z → Ev (fun k => F k (x + 1)) r → Ev (fun k => F k x) r) (he : Ev (fun k => F k z) r) : Ev (fun k => F k y) r := by
  have g : ∀ (d : Nat) (x : Int), x + d = z → y ≤ x → Ev (fun k => F k x) r := by
    intro d
    induction d with
    | zero => intro x hx hy; obtain rfl : x = z := by omega
              exact he
    | succ d ih => intro x hx hy; exact hs x hy (by omega) (ih (x + 1) (by omega) (by omega))
  exact g (z - y).toNat y (by omega) (by omega)
theorem ev_dn {ρ : Type} {F : Nat → Int → Option ρ} {r : ρ} (y z : Int) (h : z ≤ y) (hs : ∀ x, x ≤ y → z < x → Ev (fun k => F k (x - 1)) r → Ev (fun k => F k x) r) (he : Ev (fun k => F k z) r) : Ev (fun k => F k y) r := by
  have g : ∀ (d : Nat) (x : Int), x - d = z → x ≤ y → Ev (fun k => F k x) r := by
    intro d
    induction d with
    | zero => intro x hx hy; obtain rfl : x = z := by omega
              exact he
    | succ d ih => intro x hx hy; exact hs x hy (by omega) (ih (x - 1) (by omega) (by omega))
  exact g (y - z).toNat y (by omega) (by omega)
theorem specMonths (c y : Int) (hy1 : -100000 ≤ y) (hy2 : y ≤ 100000) : ∀ (t : Nat) (m : Nat) (left : Int), m + t = 13 → 1 ≤ m → 0 ≤ left → left < sumM (leapB c y) 13 - sumM (leapB c y) m →
    Ev (fun k => spec_l2DateOf.l1 k c left y m 1) (y, (moV (leapB c y) t left m).1, (moV (leapB c y) t left m).2) := by
  intro t
  induction t with
  | zero => intro m left h h1 h2 h3; obtain rfl : m = 13 := by omega
            omega
  | succ t ih =>
    intro m left h h1 h2 h3
    have hs := sumM_succ (leapB c y) m h1
    have hmd := mdV_le (m : Int) (leapB c y)
    have hle := sumM_le (leapB c y) 13
    have hle2 := sumM_le (leapB c y) m
    have hmd' := specMonthDays1_is c y m (by omega) (by omega) (by omega) (by omega)
    unfold moV
    by_cases hg : left ≥ mdV m (leapB c y)
    · rw [if_pos hg]
      have := ih (m + 1) (left - mdV m (leapB c y)) (by omega) (by omega) (by omega) (by rw [hs]; omega)
      refine Ev.step (fun k => ?_) this
      simp only [spec_l2DateOf.l1]
      rw [hmd']
      simp only [Option.bind_some]
      rw [if_pos hg, wrap_id (x := left - mdV m (leapB c y)) (by omega) (by omega), wrap_id (x := (m : Int) + 1) (by omega) (by omega)]; rfl
    · rw [if_neg hg]
      refine Ev.step (fun k => ?_) (Ev.now _)
      simp only [spec_l2DateOf.l1]
      rw [hmd']
      simp only [Option.bind_some]
      rw [if_neg hg, wrap_id (x := 1 + left) (by omega) (by omega), Int.add_comm 1 left]
theorem implMD (c y m : Int) (m1 : 1 ≤ m) (m2 : m ≤ 12) : impl_monthDays.f c y m = some (mdV m (leapB c y)) := by
  unfold impl_monthDays.f; rw [if_pos ⟨m1, m2⟩, implLeap_is]; rfl
theorem implMonths (c y : Int) : ∀ (t : Nat) (m : Nat) (left : Int), m + t = 13 → 1 ≤ m → 0 ≤ left → left < sumM (leapB c y) 13 - sumM (leapB c y) m →
    Ev (fun k => impl_dateOf.l2 k c y left m) (y, (moV (leapB c y) t left m).1, (moV (leapB c y) t left m).2) := by
  intro t
  induction t with
  | zero => intro m left h h1 h2 h3; obtain rfl : m = 13 := by omega
            omega
  | succ t ih =>
    intro m left h h1 h2 h3
    have hs := sumM_succ (leapB c y) m h1
    have hmd := mdV_le (m : Int) (leapB c y)
    have hle := sumM_le (leapB c y) 13
    have hle2 := sumM_le (leapB c y) m
    have hmd' := implMD c y m (by omega) (by omega)
    unfold moV
    by_cases hg : left ≥ mdV m (leapB c y)
    · rw [if_pos hg]
      have := ih (m + 1) (left - mdV m (leapB c y)) (by omega) (by omega) (by omega) (by rw [hs]; omega)
      refine Ev.step (fun k => ?_) this
      simp only [impl_dateOf.l2]
      rw [hmd']
      simp only [Option.bind_some]
      rw [if_pos hg, wrap_id (x := left - mdV m (leapB c y)) (by omega) (by omega), wrap_id (x := (m : Int) + 1) (by omega) (by omega)]; rfl
    · rw [if_neg hg]
      refine Ev.step (fun k => ?_) (Ev.now _)
      simp only [impl_dateOf.l2]
      rw [hmd']
      simp only [Option.bind_some]
      rw [if_neg hg, wrap_id (x := left + 1) (by omega) (by omega)]
theorem specDateOf_ev (c d y : Int) (hc : c = 1 ∨ c = 2) (hd1 : -1000100 ≤ d) (hd2 : d ≤ 1000100) (hy1 : ysV c y ≤ d + bdV c) (hy2 : d + bdV c < ysV c (y + 1)) (b1 : -1000 ≤ y) (b2 : y < 6000) :
    Ev (fun k => spec_l2DateOf.f k c d) (y, (moV (leapB c y) 12 (d + bdV c - ysV c y) 1).1, (moV (leapB c y) 12 (d + bdV c - ysV c y) 1).2) := by
  have hbb : 730485 ≤ bdV c ∧ bdV c ≤ 730487 := by unfold bdV; split <;> omega
  have hb : -40000000 ≤ ysV c y ∧ ysV c y ≤ 40000000 := by unfold ysV; split <;> omega
  have hlen := ysV_len c y hc
  have go : ∀ y0 : Int, y0 ≤ y → -10000 ≤ y0 → Ev (fun k => spec_l2DateOf.j0 k c d y0 1 1) (y, (moV (leapB c y) 12 (d + bdV c - ysV c y) 1).1, (moV (leapB c y) 12 (d + bdV c - ysV c y) 1).2) := by
    intro y0 h0 h00
    refine Ev.step (f := fun k => spec_l2DateOf.l0 k c d y0 1 1) (fun k => rfl) ?_
    refine ev_up (F := fun k x => spec_l2DateOf.l0 k c d x 1 1) y0 y h0 ?_ ?_
    · intro x hx1 hx2 h
      refine Ev.step (fun k => ?_) h
      have hm := ysV_le c (show x + 1 ≤ y by omega)
      simp only [spec_l2DateOf.l0]
      rw [wrap_id (x := x + 1) (by omega) (by omega), specFirst_is c (x + 1) hc (by omega) (by omega)]
      simp only [Option.bind_some]
      rw [if_neg (by omega)]
    · have := specMonths c y (by omega) (by omega) 12 1 (d + bdV c - ysV c y) (by omega) (by omega) (by omega) (by rw [← hlen]; simp only [sumM]; omega)
      refine Ev.step (fun k => ?_) this
      simp only [spec_l2DateOf.l0]
      rw [wrap_id (x := y + 1) (by omega) (by omega), specFirst_is c (y + 1) hc (by omega) (by omega)]
      simp only [Option.bind_some]
      rw [if_pos (by omega), specFirst_is c y hc (by omega) (by omega)]
      simp only [Option.bind_some]
      rw [wrap_id (x := d - (ysV c y - bdV c)) (by omega) (by omega), show d - (ysV c y - bdV c) = d + bdV c - ysV c y from by omega]; rfl
  have lo : ∀ y0 : Int, ysV c y0 ≤ d + bdV c → y0 ≤ y := by
    intro y0 h
    by_cases hh : y0 ≤ y
    · exact hh
    · have := ysV_le c (show y + 1 ≤ y0 by omega); omega
  unfold spec_l2DateOf.f
  rw [specFloor_is d 366 (by omega) (by omega) (by omega), specFloor_is d 365 (by omega) (by omega) (by omega)]
  simp only [Option.bind_some]
  rw [wrap_id (x := 2000 + d / 365) (by omega) (by omega), wrap_id (x := 2000 + d / 365 - 2) (by omega) (by omega), wrap_id (x := 2000 + d / 366) (by omega) (by omega), wrap_id (x := 2000 + d / 366 - 1) (by omega) (by omega)]
  by_cases hneg : d < 0
  · refine Ev.congr (f := fun k => spec_l2DateOf.j0 k c d (2000 + d / 365 - 2) 1 1) (fun k => by rw [if_pos hneg]) (go _ (lo _ ?_) (by omega))
    unfold ysV bdV; split <;> omega
  · refine Ev.congr (f := fun k => spec_l2DateOf.j0 k c d (2000 + d / 366 - 1) 1 1) (fun k => by rw [if_neg hneg]) (go _ (lo _ ?_) (by omega))
    unfold ysV bdV; split <;> omega

theorem baseDay_ev (c : Int) (hc : c = 1 ∨ c = 2) : Ev (fun k => impl_baseDay.f k c) (bdV c) := by
  unfold impl_baseDay.f bdV
  rcases hc with rfl | rfl
  · have h : impl_yearStart.f 1 2000 = some 730485 := by rw [yearStart_is 1 2000 (by omega) (by omega)]; rfl
    refine Ev.congr (f := fun _ => some 730485) (fun k => ?_) (Ev.now _)
    rw [if_pos rfl, h]; rfl
  · have h : impl_dayCount.f 20 2 1999 12 19 = some 730487 := by decide +kernel
    have := Ev.of (g := fun k => impl_dayCount.f k 2 1999 12 19) (fun k => impl_dayCount.mono _ _ _ _ k) h
    refine Ev.congr (f := fun k => (impl_dayCount.f k 2 1999 12 19).bind fun t => some t) (fun k => by rw [if_neg (by omega)]) ?_
    exact Ev.bind this (Ev.now _)
theorem implDateOf_ev (c d y : Int) (hc : c = 1 ∨ c = 2) (hd1 : -1000100 ≤ d) (hd2 : d ≤ 1000100) (hy1 : ysV c y ≤ d + bdV c) (hy2 : d + bdV c < ysV c (y + 1)) (b1 : -1000 ≤ y) (b2 : y < 6000) :
    Ev (fun k => impl_dateOf.f k c d) (y, (moV (leapB c y) 12 (d + bdV c - ysV c y) 1).1, (moV (leapB c y) 12 (d + bdV c - ysV c y) 1).2) := by
  have hbb : 730485 ≤ bdV c ∧ bdV c ≤ 730487 := by unfold bdV; split <;> omega
  have hb : -40000000 ≤ ysV c y ∧ ysV c y ≤ 40000000 := by unfold ysV; split <;> omega
  have hlen := ysV_len c y hc
  generalize hn : d + bdV c = n at *
  have fin : ∀ y0 : Int, y0 ≤ y → -10000 ≤ y0 → Ev (fun k => impl_dateOf.l1 k c n y0) (y, (moV (leapB c y) 12 (n - ysV c y) 1).1, (moV (leapB c y) 12 (n - ysV c y) 1).2) := by
    intro y0 h0 h00
    refine ev_up (F := fun k x => impl_dateOf.l1 k c n x) y0 y h0 ?_ ?_
    · intro x hx1 hx2 h
      refine Ev.step (fun k => ?_) h
      have hm := ysV_le c (show x + 1 ≤ y by omega)
      simp only [impl_dateOf.l1]
      rw [wrap_id (x := x + 1) (by omega) (by omega), yearStart_is c (x + 1) (by omega) (by omega)]
      simp only [Option.bind_some]
      rw [if_pos (by omega)]
    · have := implMonths c y 12 1 (n - ysV c y) (by omega) (by omega) (by omega) (by rw [← hlen]; simp only [sumM]; omega)
      refine Ev.step (fun k => ?_) this
      simp only [impl_dateOf.l1]
      rw [wrap_id (x := y + 1) (by omega) (by omega), yearStart_is c (y + 1) (by omega) (by omega)]
      simp only [Option.bind_some]
      rw [if_neg (by omega), yearStart_is c y (by omega) (by omega)]
      simp only [Option.bind_some]
      rw [wrap_id (x := n - ysV c y) (by omega) (by omega)]; rfl
  have go0 : ∀ y0 : Int, y0 ≤ y → -10000 ≤ y0 → Ev (fun k => impl_dateOf.l0 k c n y0) (y, (moV (leapB c y) 12 (n - ysV c y) 1).1, (moV (leapB c y) 12 (n - ysV c y) 1).2) := by
    intro y0 h0 h00
    refine Ev.step (fun k => ?_) (fin y0 h0 h00)
    have hm := ysV_le c h0
    simp only [impl_dateOf.l0]
    rw [yearStart_is c y0 (by omega) (by omega)]
    simp only [Option.bind_some]
    rw [if_neg (by omega)]
  have go : ∀ y0 : Int, -10000 ≤ y0 → y0 ≤ 10000 → Ev (fun k => impl_dateOf.l0 k c n y0) (y, (moV (leapB c y) 12 (n - ysV c y) 1).1, (moV (leapB c y) 12 (n - ysV c y) 1).2) := by
    intro y0 h00 h01
    by_cases h : y0 ≤ y
    · exact go0 y0 h h00
    · refine ev_dn (F := fun k x => impl_dateOf.l0 k c n x) y0 y (by omega) ?_ (go0 y (Int.le_refl _) (by omega))
      intro x hx1 hx2 hh
      refine Ev.step (fun k => ?_) hh
      have hm := ysV_le c (show y + 1 ≤ x by omega)
      simp only [impl_dateOf.l0]
      rw [yearStart_is c x (by omega) (by omega)]
      simp only [Option.bind_some]
      rw [if_pos (by omega), wrap_id (x := x - 1) (by omega) (by omega)]
  unfold impl_dateOf.f
  refine Ev.bind (baseDay_ev c hc) ?_
  rw [hn, wrap_id (x := n) (by omega) (by omega), floorDiv_is n 366 (by omega) (by omega) (by omega)]
  simp only [Option.bind_some]
  exact go (n / 366) (by omega) (by omega)

theorem specDay_is (n : Int) : spec_l2Day.f n = some (decide (-1000000 ≤ n ∧ n ≤ 1000000)) := by
  unfold spec_l2Day.f
  by_cases h1 : -1000000 ≤ n <;> simp [h1]
theorem isDay_is (n : Int) : impl_isDay.f n = some (decide (-1000000 ≤ n ∧ n ≤ 1000000)) := by
  unfold impl_isDay.f
  by_cases h1 : -1000000 ≤ n <;> simp [h1]

theorem floorMod_is (a b : Int) (hb : 0 < b) (hb2 : b ≤ 1000) (h1 : -1000000000 ≤ a) (h2 : a ≤ 1000000000) : impl_floorMod_int.f a b = some (a % b) := by
  unfold impl_floorMod_int.f
  rw [floorDiv_is a b hb (by omega) (by omega)]
  have e := Int.emod_add_mul_ediv a b
  have e2 := Int.emod_nonneg a (show b ≠ 0 by omega)
  have e3 := Int.emod_lt_of_pos a hb
  rw [Int.mul_comm b] at e
  simp only [Option.bind_some]
  generalize a / b * b = q at *
  rw [wrap_id (x := q) (by omega) (by omega), wrap_id (by omega) (by omega)]
  congr 1; omega

theorem FnExactWeekOf : ∀ (a0 : Int), (Lit.int .i64 a0).wf = true → ∃ k, laws_FnExactWeekOf.f k a0 = some true := by
  intro d _
  refine Ev.rounds ?_
  unfold laws_FnExactWeekOf.f
  have done : ∀ r : Int × Int, Ev (fun k => spec_WeekOf.f k d) r → Ev (fun k => impl_WeekOf.f k d) r → Ev (fun k => (spec_WeekOf.f k d).bind fun bt158 => ((impl_WeekOf.f k d).bind fun bt160 => (if bt160.1 = bt158.1 then (if bt160.2 = bt158.2 then (some true) else (some false)) else (some false)))) true := by
    intro r h1 h2
    refine Ev.bind h1 (Ev.bind h2 (Ev.congr (f := fun _ => some true) (fun k => ?_) (Ev.now true)))
    rw [if_pos rfl, if_pos rfl]
  by_cases hd : -1000000 ≤ d ∧ d ≤ 1000000
  · have hbb : 730485 ≤ bdV 1 ∧ bdV 1 ≤ 730487 := by unfold bdV; split <;> omega
    have hr := Int.emod_nonneg (d + 5) (show (7 : Int) ≠ 0 by omega)
    have hr2 := Int.emod_lt_of_pos (d + 5) (show (0 : Int) < 7 by omega)
    have hm1 := l2Mod_is (d + 5) 7 (by omega) (by omega) (by omega) (by omega)
    have hm2 := floorMod_is (d + 5) 7 (by omega) (by omega) (by omega) (by omega)
    generalize (d + 5) % 7 = R at *
    obtain ⟨y, y1, y2, y3, y4⟩ := year_ex 1 (d - R + 3 + bdV 1) (by omega) (by omega)
    have hb : -40000000 ≤ ysV 1 y ∧ ysV 1 y ≤ 40000000 := by unfold ysV; split <;> omega
    have hs := specDateOf_ev 1 (d - R + 3) y (.inl rfl) (by omega) (by omega) y1 y2 y3 y4
    have hi := implDateOf_ev 1 (d - R + 3) y (.inl rfl) (by omega) (by omega) y1 y2 y3 y4
    have hq1 : 0 ≤ Int.tdiv (d - R + 3 + bdV 1 - ysV 1 y) 7 ∧ Int.tdiv (d - R + 3 + bdV 1 - ysV 1 y) 7 ≤ 100000000 := by rw [td_pos (by omega)]; omega
    refine done (y, Int.tdiv (d - R + 3 + bdV 1 - ysV 1 y) 7 + 1) ?_ ?_
    · unfold spec_WeekOf.f
      refine Ev.congr (f := fun k => (spec_l2DateOf.f k 1 (d - R + 3)).bind fun bt129 => ((spec_l2First.f 1 bt129.1).bind fun bt132 => (some (bt129.1, wrap64 ((wrap64 (Int.tdiv (wrap64 (d - R + 3 - bt132.1)) 7)) + 1))))) (fun k => ?_) (Ev.bind hs ?_)
      · rw [specDay_is, decide_eq_true hd]
        simp only [Option.bind_some, if_true]
        rw [wrap_id (x := d + 5) (by omega) (by omega), hm1]
        simp only [Option.bind_some]
        rw [wrap_id (x := d - R) (by omega) (by omega), wrap_id (x := d - R + 3) (by omega) (by omega)]
      · rw [specFirst_is 1 y (.inl rfl) (by omega) (by omega)]
        simp only [Option.bind_some]
        rw [wrap_id (x := d - R + 3 - (ysV 1 y - bdV 1)) (by omega) (by omega), show d - R + 3 - (ysV 1 y - bdV 1) = d - R + 3 + bdV 1 - ysV 1 y from by omega]
        generalize Int.tdiv (d - R + 3 + bdV 1 - ysV 1 y) 7 = q at *
        rw [wrap_id (x := q) (by omega) (by omega), wrap_id (x := q + 1) (by omega) (by omega)]
        exact Ev.now _
    · unfold impl_WeekOf.f
      refine Ev.congr (f := fun k => (impl_dateOf.f k 1 (d - R + 3)).bind fun bt153 => ((impl_baseDay.f k 1).bind fun t156 => ((impl_yearStart.f 1 bt153.1).bind fun t157 => (some (bt153.1, wrap64 ((wrap64 (Int.tdiv (wrap64 ((wrap64 (d - R + 3 + t156)) - t157)) 7)) + 1)))))) (fun k => ?_) (Ev.bind hi (Ev.bind (baseDay_ev 1 (.inl rfl)) ?_))
      · rw [isDay_is, decide_eq_true hd]
        simp only [Option.bind_some, if_true]
        rw [wrap_id (x := d + 5) (by omega) (by omega), hm2]
        simp only [Option.bind_some]
        rw [wrap_id (x := d - R) (by omega) (by omega), wrap_id (x := d - R + 3) (by omega) (by omega)]
      · rw [yearStart_is 1 y (by omega) (by omega)]
        simp only [Option.bind_some]
        rw [wrap_id (x := d - R + 3 + bdV 1) (by omega) (by omega), wrap_id (x := d - R + 3 + bdV 1 - ysV 1 y) (by omega) (by omega)]
        generalize Int.tdiv (d - R + 3 + bdV 1 - ysV 1 y) 7 = q at *
        rw [wrap_id (x := q) (by omega) (by omega), wrap_id (x := q + 1) (by omega) (by omega)]
        exact Ev.now _
  · refine done (0, 0) ?_ ?_
    · unfold spec_WeekOf.f
      refine Ev.congr (f := fun _ => some (0, 0)) (fun k => ?_) (Ev.now _)
      rw [specDay_is, decide_eq_false hd]; rfl
    · unfold impl_WeekOf.f
      refine Ev.congr (f := fun _ => some (0, 0)) (fun k => ?_) (Ev.now _)
      rw [isDay_is, decide_eq_false hd]; rfl

end Go.Proofs.YtgemcfmkhkijaaaDoor.Pure
