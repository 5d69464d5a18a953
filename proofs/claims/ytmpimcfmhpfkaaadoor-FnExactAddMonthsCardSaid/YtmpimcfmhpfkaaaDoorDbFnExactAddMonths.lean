/- AddMonths: the reference's law in plain numbers, the walk of the program's function and of the law. -/
import Derived.Test.YtmpimcfmhpfkaaaDoorDaFnExactAddMonths
import Derived.Deep.RegionHeld3
import Derived.Deep.DeepCutAuto
namespace Go.Proofs.YtmpimcfmhpfkaaaDoor.PFnExactAddMonths
open Go.RowKit Go.Proofs.YtmpimcfmhpfkaaaDoorW.PrintWords Go.Proofs.YtmpimcfmhpfkaaaDoorW.PrintLast Go.Proofs.YtmpimcfmhpfkaaaDoorW.PrintMore
set_option linter.unusedVariables false
set_option linter.unusedSimpArgs false
theorem l2Mod_is (a b : Int) (hb : 0 < b) (hb2 : b ≤ 1000) (h1 : -1000000000 ≤ a) (h2 : a ≤ 1000000000) : spec_l2Mod.f a b = some (a % b) := by
  unfold spec_l2Mod.f spec_l2Floor.f
  rw [floor_is hb (by omega) (by omega)]
  simp only [Option.bind_some]
  have e := Int.mul_ediv_add_emod a b
  have h0 := Int.emod_nonneg a (by omega : b ≠ 0)
  have h1 := Int.emod_lt_of_pos a hb
  rw [wrap_id (x := b * (a / b)) (by omega) (by omega), wrap_id (by omega) (by omega)]
  congr 1; omega
theorem specLeap_is (c y : Int) (h1 : -1000000000 ≤ y) (h2 : y ≤ 1000000000) : spec_l2Leap.f c y = some (leapB c y) := by
  unfold spec_l2Leap.f leapB
  rw [l2Mod_is y 4 (by omega) (by omega) h1 h2, l2Mod_is y 100 (by omega) (by omega) h1 h2, l2Mod_is y 400 (by omega) (by omega) h1 h2]
  simp only [Option.bind_some, tm_zero]
  have b4 : ((y % 4) == 0) = decide (y % 4 = 0) := by rw [Bool.eq_iff_iff]; simp
  have b400 : ((y % 400) == 0) = decide (y % 400 = 0) := by rw [Bool.eq_iff_iff]; simp
  rw [b4, b400]
  by_cases hc : c = 2
  · simp [hc]
  · by_cases h4 : y % 4 = 0
    · by_cases h100 : y % 100 = 0
      · simp [hc, h4, h100]
      · simp [hc, h4, h100]
    · have : ¬ y % 400 = 0 := by omega
      simp [hc, h4, this]

theorem rd_months (m : Int) (h1 : 1 ≤ m) (h2 : m ≤ 12) : rd [31, 28, 31, 30, 31, 30, 31, 31, 30, 31, 30, 31] (m - 1) = ml m := by
  rcases (by omega : m = 1 ∨ m = 2 ∨ m = 3 ∨ m = 4 ∨ m = 5 ∨ m = 6 ∨ m = 7 ∨ m = 8 ∨ m = 9 ∨ m = 10 ∨ m = 11 ∨ m = 12) with rfl | rfl | rfl | rfl | rfl | rfl | rfl | rfl | rfl | rfl | rfl | rfl <;> rfl
theorem specMonthDays1_is (c y m : Int) (h1 : -1000000000 ≤ y) (h2 : y ≤ 1000000000) (m1 : 1 ≤ m) (m2 : m ≤ 12) : spec_l2MonthDays.f c y m = some (mdV m (leapB c y)) := by
  unfold spec_l2MonthDays.f mdV
  have hm := ml_le m
  simp only [Option.bind_some]
  rw [wrap_id (x := m - 1) (by omega) (by omega), if_pos (by omega), if_pos (by simp; omega), specLeap_is c y h1 h2, rd_months m m1 m2]
  simp only [Option.bind_some]
  rw [wrap_id (x := ml m + 1) (by omega) (by omega)]
  by_cases e : m = 2
  · cases leapB c y <;> simp [e]
  · simp [e]

theorem specCal_is (c : Int) : spec_l2Cal.f c = some (decide (c = 1 ∨ c = 2)) := by
  unfold spec_l2Cal.f
  by_cases c1 : c = 1
  · simp [c1]
  · by_cases c2 : c = 2 <;> simp [c1, c2]
theorem specYear_is (y : Int) : spec_l2Year.f y = some (decide (-5000 ≤ y ∧ y ≤ 9999)) := by
  unfold spec_l2Year.f
  by_cases h1 : -5000 ≤ y <;> simp [h1]

theorem specFloor_is (a b : Int) (hb : 0 < b) (h1 : -4611686018427387904 ≤ a) (h2 : a ≤ 4611686018427387904) : spec_l2Floor.f a b = some (a / b) := by
  unfold spec_l2Floor.f; exact floor_is hb h1 h2
/-- The reference's days to a year are the program's, counted from another day. -/
theorem specDays_is (c y : Int) (hc : c = 1 ∨ c = 2) (h1 : -100000 ≤ y) (h2 : y ≤ 100000) : spec_l2Days.f c y = some (ysV c y - bdV c - if c = 2 then 13 else 0) := by
  unfold spec_l2Days.f ysV bdV
  rw [wrap_id (x := y - 1) (by omega) (by omega), specFloor_is (y - 1) 4 (by omega) (by omega) (by omega)]
  simp only [Option.bind_some]
  rw [specFloor_is (y - 1) 100 (by omega) (by omega) (by omega)]
  simp only [Option.bind_some]
  rw [specFloor_is (y - 1) 400 (by omega) (by omega) (by omega)]
  simp only [Option.bind_some]
  rw [wrap_id (x := y - 2000) (by omega) (by omega), wrap_id (x := (y - 2000) * 365) (by omega) (by omega), wrap_id (x := -((y - 1) / 100)) (by omega) (by omega), wrap_id (x := -((y - 1) / 100) + (y - 1) / 400) (by omega) (by omega), wrap_id (x := (y - 1) / 4 + (-((y - 1) / 100) + (y - 1) / 400)) (by omega) (by omega)]
  rw [wrap_id (x := (y - 2000) * 365 + ((y - 1) / 4 + (-((y - 1) / 100) + (y - 1) / 400))) (by omega) (by omega), wrap_id (x := (y - 2000) * 365 + ((y - 1) / 4 + (-((y - 1) / 100) + (y - 1) / 400)) - 484) (by omega) (by omega), wrap_id (x := (y - 2000) * 365 + (y - 1) / 4) (by omega) (by omega), wrap_id (x := (y - 2000) * 365 + (y - 1) / 4 - 499) (by omega) (by omega)]
  rcases hc with rfl | rfl
  · rw [if_pos rfl, if_pos rfl, if_pos rfl, if_neg (by omega)]; congr 1; omega
  · rw [if_neg (by omega), if_neg (by omega), if_neg (by omega), if_pos rfl]; congr 1; omega
theorem specDayOf_l0 (c y m d : Int) (hc : c = 1 ∨ c = 2) (hy1 : -5000 ≤ y) (hy2 : y ≤ 9999) (hm1 : 1 ≤ m) (hm2 : m ≤ 12) : ∀ (t k j : Nat) (n : Int), 1 ≤ j → (m - j : Int) = t → t < k → -1000000000 ≤ n → n + 31 * t ≤ 1000000000 →
    spec_l2DayOf.l0 k c n (j : Int) y m d = some (n + (sumM (leapB c y) m.toNat - sumM (leapB c y) j) + (if c = 2 then 13 else 0), true) := by
  intro t
  induction t with
  | zero =>
    intro k j n hj ht hk h1 h2
    obtain ⟨k, rfl⟩ : ∃ q, k = q + 1 := ⟨k - 1, by omega⟩
    have e : m.toNat = j := by omega
    simp only [spec_l2DayOf.l0]
    rw [if_neg (by omega), wrap_id (x := n + 13) (by omega) (by omega), e]
    rcases hc with rfl | rfl
    · rw [if_neg (by omega), if_neg (by omega)]; congr 2; omega
    · rw [if_pos rfl, if_pos rfl]; congr 2; omega
  | succ t ih =>
    intro k j n hj ht hk h1 h2
    obtain ⟨k, rfl⟩ : ∃ q, k = q + 1 := ⟨k - 1, by omega⟩
    have hmd := mdV_le (j : Int) (leapB c y)
    have hs := sumM_succ (leapB c y) j hj
    simp only [spec_l2DayOf.l0]
    rw [if_pos (by omega), specMonthDays1_is c y j (by omega) (by omega) (by omega) (by omega)]
    simp only [Option.bind_some]
    rw [wrap_id (x := n + mdV (j : Int) (leapB c y)) (by omega) (by omega), wrap_id (x := (j : Int) + 1) (by omega) (by omega), show ((j : Int) + 1) = ((j + 1 : Nat) : Int) from by omega, ih k (j + 1) _ (by omega) (by omega) (by omega) (by omega) (by omega)]
    congr 2; omega
theorem specL2DayOf_is (c y m d : Int) (k : Nat) : spec_l2DayOf.f (k + 14) c y m d = some (if isDateB c y m d = true then (dcV c y m d - bdV c, true) else (0, false)) := by
  have jt : spec_l2DayOf.j0 (k + 14) c true y m d = some (0, false) := by
    show spec_l2DayOf.j0 (k + 13 + 1) c true y m d = _
    simp only [spec_l2DayOf.j0, if_true]
  unfold spec_l2DayOf.f
  simp only [specCal_is, specYear_is, Option.bind_some, decide_eq_true_eq]
  by_cases hc : c = 1 ∨ c = 2
  · by_cases hy : -5000 ≤ y ∧ y ≤ 9999
    · have hg : goodYearB c y = true := decide_eq_true ⟨hc, hy⟩
      by_cases m1 : m < 1
      · have e0 : isDateB c y m d = false := by unfold isDateB; rw [decide_eq_false (by omega)]; rfl
        rw [if_pos hc, if_pos hy, if_pos m1, jt, e0]; rfl
      by_cases m2 : m > 12
      · have e0 : isDateB c y m d = false := by unfold isDateB; rw [decide_eq_false (by omega)]; rfl
        rw [if_pos hc, if_pos hy, if_neg m1, if_pos m2, jt, e0]; rfl
      by_cases d1 : d < 1
      · have e0 : isDateB c y m d = false := by unfold isDateB; rw [decide_eq_false (by omega)]; rfl
        rw [if_pos hc, if_pos hy, if_neg m1, if_neg m2, if_pos d1, jt, e0]; rfl
      rw [if_pos hc, if_pos hy, if_neg m1, if_neg m2, if_neg d1, specMonthDays1_is c y m (by omega) (by omega) (by omega) (by omega)]
      simp only [Option.bind_some]
      by_cases d2 : d > mdV m (leapB c y)
      · have e0 : isDateB c y m d = false := by unfold isDateB; rw [decide_eq_false (by omega : ¬ d ≤ mdV m (leapB c y))]; simp
        rw [decide_eq_true d2, jt, e0]; rfl
      · have e0 : isDateB c y m d = true := by unfold isDateB; rw [decide_eq_true (by omega : 1 ≤ m ∧ m ≤ 12 ∧ 1 ≤ d), hg, decide_eq_true (by omega : d ≤ mdV m (leapB c y))]; rfl
        have hmd := mdV_le m (leapB c y)
        have hyb : -40000000 ≤ ysV c y ∧ ysV c y ≤ 40000000 := by unfold ysV; split <;> omega
        have hbb : 730485 ≤ bdV c ∧ bdV c ≤ 730487 := by unfold bdV; split <;> omega
        rw [decide_eq_false d2, e0, if_pos rfl]
        show spec_l2DayOf.j0 (k + 13 + 1) c false y m d = _
        simp only [spec_l2DayOf.j0, specDays_is c y hc (by omega) (by omega), Option.bind_some, Bool.false_eq_true, if_false]
        have hq : (0 : Int) ≤ (if c = 2 then 13 else 0) ∧ (if c = 2 then (13 : Int) else 0) ≤ 13 := by split <;> omega
        generalize hqq : (if c = 2 then (13 : Int) else 0) = q at hq ⊢
        rw [wrap_id (x := ysV c y - bdV c - q + d) (by omega) (by omega), wrap_id (x := ysV c y - bdV c - q + d - 1) (by omega) (by omega)]
        have := specDayOf_l0 c y m d hc hy.1 hy.2 (by omega) (by omega) (m - 1).toNat (k + 13) 1 (ysV c y - bdV c - q + d - 1) (by omega) (by omega) (by omega) (by omega) (by omega)
        rw [hqq] at this
        rw [show ((1 : Nat) : Int) = 1 from rfl] at this
        rw [this]
        unfold dcV
        congr 2
        show _ = _
        simp only [sumM]; omega
    · have eg : goodYearB c y = false := decide_eq_false (fun h => hy h.2)
      have e0 : isDateB c y m d = false := by unfold isDateB; rw [eg]; simp
      rw [if_pos hc, if_neg hy, jt, e0]; rfl
  · have eg : goodYearB c y = false := decide_eq_false (fun h => hc h.1)
    have e0 : isDateB c y m d = false := by unfold isDateB; rw [eg]; simp
    rw [if_neg hc, jt, e0]; rfl

theorem floorMod_is (a b : Int) (hb : 0 < b) (hb2 : b ≤ 1000) (h1 : -1000000000 ≤ a) (h2 : a ≤ 1000000000) : impl_floorMod_int.f a b = some (a % b) := by
  unfold impl_floorMod_int.f
  rw [floorDiv_is a b hb (by omega) (by omega)]
  have e := Int.emod_add_mul_ediv a b
  have e2 := Int.emod_nonneg a (show b ≠ 0 by omega)
  have e3 := Int.emod_lt_of_pos a hb
  rw [Int.mul_comm b] at e
  simp only [Option.bind_some]
  generalize a / b * b = q at *
  rw [wrap_id (x := q) (by omega) (by omega), wrap_id (by omega) (by omega)]
  congr 1; omega
/-- What AddMonths tells. -/
def addV (c y m d n : Int) : Int × Int × Int :=
  if isDateB c y m d = true ∧ -100000 ≤ n ∧ n ≤ 100000 ∧ goodYearB c ((y * 12 + m - 1 + n) / 12) = true then
    ((y * 12 + m - 1 + n) / 12, 1 + (y * 12 + m - 1 + n) % 12, min d (mdV (1 + (y * 12 + m - 1 + n) % 12) (leapB c ((y * 12 + m - 1 + n) / 12)))) else (0, 0, 0)
theorem specAdd_is (c y m d n : Int) : spec_AddMonths.f 14 c y m d n = some (addV c y m d n) := by
  unfold spec_AddMonths.f
  rw [specL2DayOf_is c y m d 0]
  have jt : ∀ b, b = true → spec_AddMonths.j0 14 c n b y m d = some (0, 0, 0) := by
    intro b hb
    show spec_AddMonths.j0 (13 + 1) c n b y m d = _
    simp only [spec_AddMonths.j0, hb, if_true]
  cases hg : isDateB c y m d
  · simp [addV, hg, jt true rfl]
  obtain ⟨f1, f2, f3, f4, f5, f6, f7⟩ := isDate_facts hg
  simp only [if_true, Option.bind_some]
  by_cases n1 : n < -100000
  · rw [if_pos n1, jt true rfl, addV, if_neg (by omega)]
  rw [if_neg n1]
  by_cases n2 : n > 100000
  · rw [decide_eq_true n2, jt true rfl, addV, if_neg (by omega)]
  rw [decide_eq_false n2]
  show spec_AddMonths.j0 (13 + 1) c n false y m d = _
  have hr := Int.emod_nonneg (y * 12 + m - 1 + n) (show (12 : Int) ≠ 0 by omega)
  have hr2 := Int.emod_lt_of_pos (y * 12 + m - 1 + n) (show (0 : Int) < 12 by omega)
  simp only [spec_AddMonths.j0, Bool.false_eq_true, if_false]
  rw [wrap_id (x := y * 12) (by omega) (by omega), wrap_id (x := y * 12 + m) (by omega) (by omega), wrap_id (x := y * 12 + m - 1) (by omega) (by omega), wrap_id (x := y * 12 + m - 1 + n) (by omega) (by omega)]
  rw [specFloor_is _ 12 (by omega) (by omega) (by omega), l2Mod_is _ 12 (by omega) (by omega) (by omega) (by omega)]
  simp only [Option.bind_some, specYear_is, decide_eq_true_eq]
  rw [wrap_id (x := 1 + (y * 12 + m - 1 + n) % 12) (by omega) (by omega)]
  unfold addV
  by_cases hy : -5000 ≤ (y * 12 + m - 1 + n) / 12 ∧ (y * 12 + m - 1 + n) / 12 ≤ 9999
  · have eg : goodYearB c ((y * 12 + m - 1 + n) / 12) = true := decide_eq_true ⟨f1, hy⟩
    rw [if_pos hy, specMonthDays1_is c _ _ (by omega) (by omega) (by omega) (by omega), if_pos ⟨hg, by omega, by omega, eg⟩]
    simp only [Option.bind_some]
    split
    · rw [Int.min_eq_right (by omega)]
    · rw [Int.min_eq_left (by omega)]
  · have eg : goodYearB c ((y * 12 + m - 1 + n) / 12) = false := decide_eq_false (fun h => hy h.2)
    rw [if_neg hy, if_neg (by rw [eg]; simp)]
/-- What AddMonths needs of isDate, at any world. -/
theorem isDate_at (c y m d : Int) (b : Bool) (hg : isDateB c y m d = b) : ∀ w, Tab w → Calls Tryd.prog 29 #[.int .i64 c, .agg #[.int .i64 y, .int .i64 m, .int .i64 d]] w fun e w' => e = .returned (.bool b) ∧ Below w.heap.size w w' := by
  intro w hT; rw [← hg]; exact isDate_calls c y m d w hT
theorem monthDays_at (c y m : Int) (h1 : 1 ≤ m) (h2 : m ≤ 12) : ∀ w, Tab w → Calls Tryd.prog 33 #[.int .i64 c, .int .i64 y, .int .i64 m] w fun e w' => e = .returned (.int .i64 (mdV m (leapB c y))) ∧ Drawn0 w w' :=
  fun w hT => monthDays_calls c y m w h1 h2 hT _ (implLeap_is c y)
set_option maxHeartbeats 4000000 in
theorem AddMonths_calls (c y m d n : Int) (w : World) (hT : Tab w) :
    Calls Tryd.prog 12 #[.int .i64 c, .agg #[.int .i64 y, .int .i64 m, .int .i64 d], .int .i64 n] w fun e w' => e = .returned (.agg #[.int .i64 (addV c y m d n).1, .int .i64 (addV c y m d n).2.1, .int .i64 (addV c y m d n).2.2]) ∧ Below w.heap.size w w' := by
  have hb0 : Below w.heap.size w ((w.alloc (.cells #[.int .i64 y, .int .i64 m, .int .i64 d] 35)).alloc (.cells #[.int .i64 0, .int .i64 0, .int .i64 0] 35)) := below_alloc (below_alloc (Below.refl _ _) _) _
  have hT0 := hT.below hb0
  have hbk : ((w.alloc (.cells #[.int .i64 y, .int .i64 m, .int .i64 d] 35)).alloc (.cells #[.int .i64 0, .int .i64 0, .int .i64 0] 35)).heap[w.heap.size + 1]? = some (.cells #[.int .i64 0, .int .i64 0, .int .i64 0] 35 (0, 0)) := by
    have h := blk_new (w.alloc (.cells #[.int .i64 y, .int .i64 m, .int .i64 d] 35)) (.cells #[.int .i64 0, .int .i64 0, .int .i64 0] 35)
    have e : (w.alloc (.cells #[.int .i64 y, .int .i64 m, .int .i64 d] 35)).heap.size = w.heap.size + 1 := Array.size_push _
    rw [e] at h; exact h
  cases hg : isDateB c y m d
  · have hid := isDate_at c y m d _ hg
    have e0 : addV c y m d n = (0, 0, 0) := by unfold addV; rw [if_neg (by rw [hg]; simp)]
    rw [e0]
    have HID := Lib.hid hid; have HB0 := Lib.hid hb0; have HT0 := Lib.hid hT0; have HBK := Lib.hid hbk; clear hbk hid hb0 hT hT0 hg e0
    go_enter Tryd.func12, Tryd.ntmps12
    go_wp2_with fail
    refine (HID.out _ HT0.out).mono ?_; rintro e w2 ⟨rfl, hd⟩; have HD := Lib.hid hd; obtain ⟨hc, hf⟩ := bcell hd; clear hd
    go_wp2_with fail
    (try simp only [Exit.inBlock, Exit.then]); refine bodyPost_ret (results_cell_row rfl _ _ (w.heap.size + 1) 35 #[.int .i64 0, .int .i64 0, .int .i64 0] (0, 0) _ rfl (blk_put (blk_put (blk_put (blk_below HBK.out HD.out) 0 _ rfl) 1 _ rfl) 2 _ rfl) Tryd.underlying35 rfl (by kernel_rfl)) rfl ?_
    exact ⟨rfl, (((below_step HB0.out HD.out).setCell (by show _ ≤ w.heap.size + 1; omega) _).setCell (by show _ ≤ w.heap.size + 1; omega) _).setCell (by show _ ≤ w.heap.size + 1; omega) _⟩
  · obtain ⟨f1, f2, f3, f4, f5, f6, f7⟩ := isDate_facts hg
    have hid := isDate_at c y m d _ hg
    by_cases n1 : n < -100000
    · have e0 : addV c y m d n = (0, 0, 0) := by unfold addV; rw [if_neg (by omega)]
      rw [e0]
      have b1 : decide (n < -100000) = true := decide_eq_true n1
      have HID := Lib.hid hid; have HB0 := Lib.hid hb0; have HT0 := Lib.hid hT0; have HBK := Lib.hid hbk; clear hbk hid hb0 hT hT0 hg f1 f2 f3 f4 f5 f6 f7 e0
      go_enter Tryd.func12, Tryd.ntmps12
      go_wp2_with fail
      refine (HID.out _ HT0.out).mono ?_; rintro e w2 ⟨rfl, hd⟩; have HD := Lib.hid hd; obtain ⟨hc, hf⟩ := bcell hd; clear hd
      go_wp2_with fail
      (try simp only [Exit.inBlock, Exit.then]); refine bodyPost_ret (results_cell_row rfl _ _ (w.heap.size + 1) 35 #[.int .i64 0, .int .i64 0, .int .i64 0] (0, 0) _ rfl (blk_put (blk_put (blk_put (blk_below HBK.out HD.out) 0 _ rfl) 1 _ rfl) 2 _ rfl) Tryd.underlying35 rfl (by kernel_rfl)) rfl ?_
      exact ⟨rfl, (((below_step HB0.out HD.out).setCell (by show _ ≤ w.heap.size + 1; omega) _).setCell (by show _ ≤ w.heap.size + 1; omega) _).setCell (by show _ ≤ w.heap.size + 1; omega) _⟩
    have b1 : decide (n < -100000) = false := decide_eq_false n1
    by_cases n2 : n > 100000
    · have e0 : addV c y m d n = (0, 0, 0) := by unfold addV; rw [if_neg (by omega)]
      rw [e0]
      have b2 : decide (n > 100000) = true := decide_eq_true n2
      have HID := Lib.hid hid; have HB0 := Lib.hid hb0; have HT0 := Lib.hid hT0; have HBK := Lib.hid hbk; clear hbk hid hb0 hT hT0 hg f1 f2 f3 f4 f5 f6 f7 e0
      go_enter Tryd.func12, Tryd.ntmps12
      go_wp2_with fail
      refine (HID.out _ HT0.out).mono ?_; rintro e w2 ⟨rfl, hd⟩; have HD := Lib.hid hd; obtain ⟨hc, hf⟩ := bcell hd; clear hd
      go_wp2_with fail
      (try simp only [Exit.inBlock, Exit.then]); refine bodyPost_ret (results_cell_row rfl _ _ (w.heap.size + 1) 35 #[.int .i64 0, .int .i64 0, .int .i64 0] (0, 0) _ rfl (blk_put (blk_put (blk_put (blk_below HBK.out HD.out) 0 _ rfl) 1 _ rfl) 2 _ rfl) Tryd.underlying35 rfl (by kernel_rfl)) rfl ?_
      exact ⟨rfl, (((below_step HB0.out HD.out).setCell (by show _ ≤ w.heap.size + 1; omega) _).setCell (by show _ ≤ w.heap.size + 1; omega) _).setCell (by show _ ≤ w.heap.size + 1; omega) _⟩
    have b2 : decide (n > 100000) = false := decide_eq_false n2
    have hr := Int.emod_nonneg (y * 12 + m - 1 + n) (show (12 : Int) ≠ 0 by omega)
    have hr2 := Int.emod_lt_of_pos (y * 12 + m - 1 + n) (show (0 : Int) < 12 by omega)
    have hfd := floorDiv_is (y * 12 + m - 1 + n) 12 (by omega) (by omega) (by omega)
    have hfm := floorMod_is (y * 12 + m - 1 + n) 12 (by omega) (by omega) (by omega) (by omega)
    have hgy := implGoodYear_is c ((y * 12 + m - 1 + n) / 12)
    have hmd := monthDays_at c ((y * 12 + m - 1 + n) / 12) (1 + (y * 12 + m - 1 + n) % 12) (by omega) (by omega)
    unfold addV
    generalize hQ : (y * 12 + m - 1 + n) / 12 = Q at *
    generalize hR : (y * 12 + m - 1 + n) % 12 = R at *
    cases hyy : goodYearB c Q
    · rw [if_neg (by simp)]
      rw [hyy] at hgy
      have HFD := Lib.hid hfd; have HFM := Lib.hid hfm; have HGY := Lib.hid hgy; clear hfd hfm hgy hmd hyy hQ hR f1
      have HID := Lib.hid hid; have HB0 := Lib.hid hb0; have HT0 := Lib.hid hT0; have HBK := Lib.hid hbk; clear hbk hid hb0 hT hT0 hg
      go_enter Tryd.func12, Tryd.ntmps12
      go_wp2_with fail
      refine (HID.out _ HT0.out).mono ?_; rintro e w2 ⟨rfl, hd⟩; have HD := Lib.hid hd; obtain ⟨hc, hf⟩ := bcell hd; clear hd
      go_wp2_with fail
      refine (impl_floorDiv_int.calls _ _ _ _ HFD.out).mono ?_; rintro e w3 ⟨rfl, hd⟩; have HD3 := Lib.hid (below_step HD.out hd.below); obtain ⟨hc3, hf3⟩ := bcell (below_step HD.out hd.below); clear hd hc hf
      go_wp2_with fail
      refine (impl_floorMod_int.calls _ _ _ _ HFM.out).mono ?_; rintro e w4 ⟨rfl, hd⟩; have HD4 := Lib.hid (below_step HD3.out hd.below); obtain ⟨hc4, hf4⟩ := bcell (below_step HD3.out hd.below); clear hd hc3 hf3
      go_wp2_with fail
      refine (impl_goodYear.calls _ _ _ _ HGY.out).mono ?_; rintro e w5 ⟨rfl, hd⟩; have HD5 := Lib.hid (below_step HD4.out hd.below); obtain ⟨hc5, hf5⟩ := bcell (below_step HD4.out hd.below); clear hd hc4 hf4
      go_wp2_with fail
      (try simp only [Exit.inBlock, Exit.then]); refine bodyPost_ret (results_cell_row rfl _ _ (w.heap.size + 1) 35 #[.int .i64 0, .int .i64 0, .int .i64 0] (0, 0) _ rfl (blk_put (blk_put (blk_put (blk_below HBK.out HD5.out) 0 _ rfl) 1 _ rfl) 2 _ rfl) Tryd.underlying35 rfl (by kernel_rfl)) rfl ?_
      exact ⟨rfl, (((below_step HB0.out HD5.out).setCell (by show _ ≤ w.heap.size + 1; omega) _).setCell (by show _ ≤ w.heap.size + 1; omega) _).setCell (by show _ ≤ w.heap.size + 1; omega) _⟩
    · rw [if_pos ⟨hg, by omega, by omega, rfl⟩]
      rw [Int.add_comm 1 R] at hmd ⊢
      generalize mdV (R + 1) (leapB c Q) = M at *
      rw [hyy] at hgy
      have HFD := Lib.hid hfd; have HFM := Lib.hid hfm; have HGY := Lib.hid hgy; have HMD := Lib.hid hmd; clear hfd hfm hgy hmd hyy hQ hR f1
      have HID := Lib.hid hid; have HB0 := Lib.hid hb0; have HT0 := Lib.hid hT0; have HBK := Lib.hid hbk; clear hbk hid hb0 hT hT0 hg
      by_cases hM : M < d
      · rw [show min d M = M from by omega]
        go_enter Tryd.func12, Tryd.ntmps12
        go_wp2_with fail
        refine (HID.out _ HT0.out).mono ?_; rintro e w2 ⟨rfl, hd⟩; have HD := Lib.hid hd; obtain ⟨hc, hf⟩ := bcell hd; clear hd
        go_wp2_with fail
        refine (impl_floorDiv_int.calls _ _ _ _ HFD.out).mono ?_; rintro e w3 ⟨rfl, hd⟩; have HD3 := Lib.hid (below_step HD.out hd.below); obtain ⟨hc3, hf3⟩ := bcell (below_step HD.out hd.below); clear hd hc hf
        go_wp2_with fail
        refine (impl_floorMod_int.calls _ _ _ _ HFM.out).mono ?_; rintro e w4 ⟨rfl, hd⟩; have HD4 := Lib.hid (below_step HD3.out hd.below); obtain ⟨hc4, hf4⟩ := bcell (below_step HD3.out hd.below); clear hd hc3 hf3
        go_wp2_with fail
        refine (impl_goodYear.calls _ _ _ _ HGY.out).mono ?_; rintro e w5 ⟨rfl, hd⟩; have HD5 := Lib.hid (below_step HD4.out hd.below); obtain ⟨hc5, hf5⟩ := bcell (below_step HD4.out hd.below); clear hd hc4 hf4
        go_wp2_with fail
        have hsz : ((w.alloc (.cells #[.int .i64 y, .int .i64 m, .int .i64 d] 35)).alloc (.cells #[.int .i64 0, .int .i64 0, .int .i64 0] 35)).heap.size = w.heap.size + 1 + 1 := by
          rw [show ∀ (u : World) (o : Obj), (u.alloc o).heap.size = u.heap.size + 1 from fun u o => Array.size_push _, show ∀ (u : World) (o : Obj), (u.alloc o).heap.size = u.heap.size + 1 from fun u o => Array.size_push _]
        have hl : w5.cell? ⟨w.heap.size, 2, none⟩ = some (.int .i64 d) := by
          rw [hc5 _ _ (by rw [hsz]; omega)]
          have hq := blk_alloc (blk_new w (.cells #[.int .i64 y, .int .i64 m, .int .i64 d] 35)) (.cells #[.int .i64 0, .int .i64 0, .int .i64 0] 35)
          exact blk_cell hq 2
        clear hc5 hf5 hsz
        have hb5 := blk_below HBK.out HD5.out
        have q0 := blk_cell hb5 0
        have q1 := blk_cell hb5 1
        have q2 := blk_cell hb5 2
        have z0 := blk_frozen hb5 0
        have z1 := blk_frozen hb5 1
        have z2 := blk_frozen hb5 2
        simp only [List.getElem?_toArray, List.getElem?_cons_zero, List.getElem?_cons_succ] at q0 q1 q2
        clear hb5
        go_region_held3 (fun w' => w'.cell? ⟨w.heap.size, 2, none⟩ = some (.int .i64 d)) (go_keep)
          (first | (go_at_call 33; refine (HMD.out _ ?_).mono ?_; (exact HT0.out.below (pw_below_drewN HD5.out _)); rintro e w' ⟨rfl, ⟨q, rfl⟩⟩))
        go_wp2_with fail
        (try simp only [Exit.inBlock, Exit.then]); refine bodyPost_ret (results_cell_row rfl _ _ (w.heap.size + 1) 35 _ (0, 0) _ rfl (blk_put (blk_put (blk_put (blk_drewN (blk_below HBK.out HD5.out) _) 0 _ rfl) 1 _ rfl) 2 _ rfl) Tryd.underlying35 rfl (by kernel_rfl)) rfl ?_
        refine ⟨by first | rfl | simp [hM], (((below_step HB0.out (pw_below_drewN HD5.out _)).setCell (by show _ ≤ w.heap.size + 1; omega) _).setCell (by show _ ≤ w.heap.size + 1; omega) _).setCell (by show _ ≤ w.heap.size + 1; omega) _⟩
      · rw [show min d M = d from by omega]
        go_enter Tryd.func12, Tryd.ntmps12
        go_wp2_with fail
        refine (HID.out _ HT0.out).mono ?_; rintro e w2 ⟨rfl, hd⟩; have HD := Lib.hid hd; obtain ⟨hc, hf⟩ := bcell hd; clear hd
        go_wp2_with fail
        refine (impl_floorDiv_int.calls _ _ _ _ HFD.out).mono ?_; rintro e w3 ⟨rfl, hd⟩; have HD3 := Lib.hid (below_step HD.out hd.below); obtain ⟨hc3, hf3⟩ := bcell (below_step HD.out hd.below); clear hd hc hf
        go_wp2_with fail
        refine (impl_floorMod_int.calls _ _ _ _ HFM.out).mono ?_; rintro e w4 ⟨rfl, hd⟩; have HD4 := Lib.hid (below_step HD3.out hd.below); obtain ⟨hc4, hf4⟩ := bcell (below_step HD3.out hd.below); clear hd hc3 hf3
        go_wp2_with fail
        refine (impl_goodYear.calls _ _ _ _ HGY.out).mono ?_; rintro e w5 ⟨rfl, hd⟩; have HD5 := Lib.hid (below_step HD4.out hd.below); obtain ⟨hc5, hf5⟩ := bcell (below_step HD4.out hd.below); clear hd hc4 hf4
        go_wp2_with fail
        have hsz : ((w.alloc (.cells #[.int .i64 y, .int .i64 m, .int .i64 d] 35)).alloc (.cells #[.int .i64 0, .int .i64 0, .int .i64 0] 35)).heap.size = w.heap.size + 1 + 1 := by
          rw [show ∀ (u : World) (o : Obj), (u.alloc o).heap.size = u.heap.size + 1 from fun u o => Array.size_push _, show ∀ (u : World) (o : Obj), (u.alloc o).heap.size = u.heap.size + 1 from fun u o => Array.size_push _]
        have hl : w5.cell? ⟨w.heap.size, 2, none⟩ = some (.int .i64 d) := by
          rw [hc5 _ _ (by rw [hsz]; omega)]
          have hq := blk_alloc (blk_new w (.cells #[.int .i64 y, .int .i64 m, .int .i64 d] 35)) (.cells #[.int .i64 0, .int .i64 0, .int .i64 0] 35)
          exact blk_cell hq 2
        clear hc5 hf5 hsz
        have hb5 := blk_below HBK.out HD5.out
        have q0 := blk_cell hb5 0
        have q1 := blk_cell hb5 1
        have q2 := blk_cell hb5 2
        have z0 := blk_frozen hb5 0
        have z1 := blk_frozen hb5 1
        have z2 := blk_frozen hb5 2
        simp only [List.getElem?_toArray, List.getElem?_cons_zero, List.getElem?_cons_succ] at q0 q1 q2
        clear hb5
        go_region_held3 (fun w' => w'.cell? ⟨w.heap.size, 2, none⟩ = some (.int .i64 d)) (go_keep)
          (first | (go_at_call 33; refine (HMD.out _ ?_).mono ?_; (exact HT0.out.below (pw_below_drewN HD5.out _)); rintro e w' ⟨rfl, ⟨q, rfl⟩⟩))
        go_wp2_with fail
        (try simp only [Exit.inBlock, Exit.then]); refine bodyPost_ret (results_cell_row rfl _ _ (w.heap.size + 1) 35 _ (0, 0) _ rfl (blk_put (blk_put (blk_put (blk_drewN (blk_below HBK.out HD5.out) _) 0 _ rfl) 1 _ rfl) 2 _ rfl) Tryd.underlying35 rfl (by kernel_rfl)) rfl ?_
        refine ⟨by first | rfl | simp [hM], (((below_step HB0.out (pw_below_drewN HD5.out _)).setCell (by show _ ≤ w.heap.size + 1; omega) _).setCell (by show _ ≤ w.heap.size + 1; omega) _).setCell (by show _ ≤ w.heap.size + 1; omega) _⟩
set_option maxHeartbeats 4000000 in
theorem law_calls (c y m d n : Int) (w : World) (hT : Tab w) :
    Calls Tryd.prog 4 #[.int .i64 c, .agg #[.int .i64 y, .int .i64 m, .int .i64 d], .int .i64 n] w fun e w' => e = .returned (.bool true) ∧ Below w.heap.size w w' := by
  have hs : spec_AddMonths.f 14 c y m d n = some ((addV c y m d n).1, (addV c y m d n).2.1, (addV c y m d n).2.2) := specAdd_is c y m d n
  have hcall : ∀ w', Tab w' → Calls Tryd.prog 12 #[.int .i64 c, .agg #[.int .i64 y, .int .i64 m, .int .i64 d], .int .i64 n] w' fun e w'' => e = .returned (.agg #[.int .i64 (addV c y m d n).1, .int .i64 (addV c y m d n).2.1, .int .i64 (addV c y m d n).2.2]) ∧ Below w'.heap.size w' w'' := fun w' h => AddMonths_calls c y m d n w' h
  generalize (addV c y m d n).1 = A at *
  generalize (addV c y m d n).2.1 = B at *
  generalize (addV c y m d n).2.2 = D at *
  have heq : laws_eqDate.f A B D A B D = some true := by unfold laws_eqDate.f; rw [if_pos rfl, if_pos rfl, if_pos rfl]
  have hb0 : Below w.heap.size w (w.alloc (.cells #[.int .i64 y, .int .i64 m, .int .i64 d] 34)) := below_alloc (Below.refl _ _) _
  have HS := Lib.hid hs; have HC := Lib.hid hcall; have HT := Lib.hid (hT.below hb0); have HB := Lib.hid hb0; have HE := Lib.hid heq; clear hs hcall hT hb0 heq
  have htd : laws_toDate.f y m d = some (y, m, d) := rfl
  have HTD := Lib.hid htd; clear htd
  go_enter Tryd.func4, Tryd.ntmps4
  go_wp2_with fail
  refine (laws_toDate.calls _ _ _ _ _ _ _ HTD.out).mono ?_; rintro e w2 ⟨rfl, hd⟩; have HD := Lib.hid hd; obtain ⟨hc, hf⟩ := bcell hd; clear hd
  go_wp2_with fail
  refine (spec_AddMonths.calls _ _ _ _ _ _ _ _ _ _ HS.out).mono ?_; rintro e w3 ⟨rfl, hd⟩; have HD3 := Lib.hid (below_step HD.out hd); have hk3 := blk_below (blk_new w (.cells #[.int .i64 y, .int .i64 m, .int .i64 d] 34)) HD3.out
  have q0 : ∀ o, (w3.alloc o).cell? ⟨w.heap.size, 0, none⟩ = some (.int .i64 y) := fun o => blk_cell (blk_alloc hk3 o) 0
  have q1 : ∀ o, (w3.alloc o).cell? ⟨w.heap.size, 1, none⟩ = some (.int .i64 m) := fun o => blk_cell (blk_alloc hk3 o) 1
  have q2 : ∀ o, (w3.alloc o).cell? ⟨w.heap.size, 2, none⟩ = some (.int .i64 d) := fun o => blk_cell (blk_alloc hk3 o) 2
  have hb3 : Below (w.alloc (.cells #[.int .i64 y, .int .i64 m, .int .i64 d] 34)).heap.size (w.alloc (.cells #[.int .i64 y, .int .i64 m, .int .i64 d] 34)) (w3.alloc (.cells #[.int .i64 A, .int .i64 B, .int .i64 D] 35)) := below_alloc HD3.out _
  have HB3 := Lib.hid hb3
  clear hd hc hf hk3 hb3
  go_wp2_with fail
  refine (laws_toDate.calls _ _ _ _ _ _ _ HTD.out).mono ?_; rintro e w4 ⟨rfl, hd⟩; have HD4 := Lib.hid (below_step HB3.out hd); have HR4 := Lib.hid hd; clear hd q0 q1 q2
  go_wp2_with fail
  refine (HC.out _ (HT.out.below HD4.out)).mono ?_; rintro e w5 ⟨rfl, hd⟩; have HD5 := Lib.hid (below_step HD4.out hd)
  have hk5 := blk_below (blk_new w3 (.cells #[.int .i64 A, .int .i64 B, .int .i64 D] 35)) (below_step HR4.out hd)
  have q0 : ∀ o, (w5.alloc o).cell? ⟨w3.heap.size, 0, none⟩ = some (.int .i64 A) := fun o => blk_cell (blk_alloc hk5 o) 0
  have q1 : ∀ o, (w5.alloc o).cell? ⟨w3.heap.size, 1, none⟩ = some (.int .i64 B) := fun o => blk_cell (blk_alloc hk5 o) 1
  have q2 : ∀ o, (w5.alloc o).cell? ⟨w3.heap.size, 2, none⟩ = some (.int .i64 D) := fun o => blk_cell (blk_alloc hk5 o) 2
  have hb5 : Below w.heap.size w (w5.alloc (.cells #[.int .i64 A, .int .i64 B, .int .i64 D] 35)) := below_alloc (below_step HB.out HD5.out) _
  have HB5 := Lib.hid hb5
  clear hd hk5 hb5
  go_wp2_with fail
  refine (laws_eqDate.calls _ _ _ _ _ _ _ _ HE.out).mono ?_; rintro e w6 ⟨rfl, hd⟩; have HD6 := Lib.hid (below_step HB5.out hd); clear hd q0 q1 q2
  go_wp2_with fail
  go_ret
  exact ⟨rfl, HD6.out⟩
end Go.Proofs.YtmpimcfmhpfkaaaDoor.PFnExactAddMonths
