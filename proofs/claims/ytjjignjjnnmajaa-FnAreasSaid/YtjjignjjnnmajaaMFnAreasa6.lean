/- Functions of the program as Lean functions, and proofs that the Go code comes to their answers: for the law FnAreas; made out of the print by a program of mine (compact.py). No conditions but each theorem's own. -/
import Derived.Test.YtjjignjjnnmajaaMFnAreasa0
import Derived.Test.YtjjignjjnnmajaaMFnAreasa5
namespace Go.Proofs.Ytjjignjjnnmajaa.PFnAreas
open List (map_toArray map_cons map_nil length_drop length_take set_cons_zero set_cons_succ setIfInBounds_toArray)
open Go.RowKit Go.Proofs.YtjjignjjnnmajaaW.PrintWords Go.Proofs.YtjjignjjnnmajaaW.PrintLast Go.Proofs.YtjjignjjnnmajaaW.PrintMore
attribute [local go_sem] max2_int min2_int max_two min_two max_three min_three max_four min_four   -- for this text's walks alone
set_option linter.unusedVariables false
set_option linter.unusedSimpArgs false

attribute [local go_sem high] eqA26
set_option maxHeartbeats 8000000 in
set_option maxRecDepth 100000 in
theorem spec_l3Max.calls (a0 : Int) (a1 : Int) (r : Int) (w : World) (h : spec_l3Max.f a0 a1 = some r) :
  Calls Try.prog 23 #[.int .i64 a0, .int .i64 a1] w fun e w' => e = .returned (.int .i64 r) ∧ Drawn0 w w' := by
 have H : (if a0 > a1 then (some a0) else (some a1)) = some r := h
 clear h
 by_cases c3 : a0 > a1
 ·rw [if_pos c3] at H
  have c3b0 : decide (a1 < a0) = true := decide_eq_true c3
  clear c3
  obtain rfl := Option.some.inj H
  go_enter Try.func23, Try.ntmps23
  go_wp2
  go_ret
  exact ⟨by first | rfl | (simp; done) | (simp [*]; done), by repeat (first | exact Drawn0.refl _ | apply Drawn0.step)⟩
 ·rw [if_neg c3] at H
  have c3b0 : decide (a1 < a0) = false := decide_eq_false c3
  clear c3
  obtain rfl := Option.some.inj H
  go_enter Try.func23, Try.ntmps23
  go_wp2
  go_ret
  exact ⟨by first | rfl | (simp; done) | (simp [*]; done), by repeat (first | exact Drawn0.refl _ | apply Drawn0.step)⟩



/-! ### spec_l3Min: function 24 -/

def spec_l3Min.f (a0 : Int) (a1 : Int) : Option (Int) := if a0 < a1 then (some a0) else (some a1)

set_option maxHeartbeats 8000000 in
set_option maxRecDepth 100000 in
theorem spec_l3Min.calls (a0 : Int) (a1 : Int) (r : Int) (w : World) (h : spec_l3Min.f a0 a1 = some r) :
  Calls Try.prog 24 #[.int .i64 a0, .int .i64 a1] w fun e w' => e = .returned (.int .i64 r) ∧ Drawn0 w w' := by
 have H : (if a0 < a1 then (some a0) else (some a1)) = some r := h
 clear h
 by_cases c3 : a0 < a1
 ·rw [if_pos c3] at H
  have c3b0 : decide (a0 < a1) = true := decide_eq_true c3
  clear c3
  obtain rfl := Option.some.inj H
  go_enter Try.func24, Try.ntmps24
  go_wp2
  go_ret
  exact ⟨by first | rfl | (simp; done) | (simp [*]; done), by repeat (first | exact Drawn0.refl _ | apply Drawn0.step)⟩
 ·rw [if_neg c3] at H
  have c3b0 : decide (a0 < a1) = false := decide_eq_false c3
  clear c3
  obtain rfl := Option.some.inj H
  go_enter Try.func24, Try.ntmps24
  go_wp2
  go_ret
  exact ⟨by first | rfl | (simp; done) | (simp [*]; done), by repeat (first | exact Drawn0.refl _ | apply Drawn0.step)⟩



/-! ### spec_Meet: function 12 -/

def spec_Meet.j0 : Nat → Bool → Int → Int → Bool → Bool → Int → Int → Bool → Bool → Int → Int → Bool → Bool → Int → Int → Bool → Bool → Option (Int × Int × Bool × Bool × Int × Int × Bool × Bool × Bool)
 | 0, _, _, _, _, _, _, _, _, _, _, _, _, _, _, _, _, _ => none
 | k + 1, x14, x287000, x287001, x287002, x287003, x287004, x287005, x287006, x287007, x288000, x288001, x288002, x288003, x288004, x288005, x288006, x288007 => if x14 = true then (some (0, 0, false, false, 0, 0, false, false, false)) else ((spec_l3Normal.f x287000 x287001 x287002 x287003 x287004 x287005 x287006 x287007).bind fun bt291 => ((spec_l3Normal.f x288000 x288001 x288002 x288003 x288004 x288005 x288006 x288007).bind fun bt299 => ((spec_l3Max.f bt291.1 bt299.1).bind fun t307 => ((spec_l3Max.f bt291.2.1 bt299.2.1).bind fun t308 => ((spec_l3Min.f bt291.2.2.2.2.1 bt299.2.2.2.2.1).bind fun t309 => ((spec_l3Min.f bt291.2.2.2.2.2.1 bt299.2.2.2.2.2.1).bind fun t310 => ((spec_l3Area.f t307 t308 t309 t310).bind fun bt311 => (if bt311.1 > bt311.2.2.2.2.1 then (some (0, 0, false, false, 0, 0, false, false, false)) else (if bt311.2.1 > bt311.2.2.2.2.2.1 then (some (0, 0, false, false, 0, 0, false, false, false)) else (some (bt311.1, bt311.2.1, bt311.2.2.1, bt311.2.2.2.1, bt311.2.2.2.2.1, bt311.2.2.2.2.2.1, bt311.2.2.2.2.2.2.1, bt311.2.2.2.2.2.2.2, true)))))))))))

def spec_Meet.f (k : Nat) (a0_0 : Int) (a0_1 : Int) (a0_2 : Bool) (a0_3 : Bool) (a0_4 : Int) (a0_5 : Int) (a0_6 : Bool) (a0_7 : Bool) (a1_0 : Int) (a1_1 : Int) (a1_2 : Bool) (a1_3 : Bool) (a1_4 : Int) (a1_5 : Int) (a1_6 : Bool) (a1_7 : Bool) : Option (Int × Int × Bool × Bool × Int × Int × Bool × Bool × Bool) := (spec_GoodArea.f a0_0 a0_1 a0_2 a0_3 a0_4 a0_5 a0_6 a0_7).bind fun t289 => (if t289 = true then ((spec_GoodArea.f a1_0 a1_1 a1_2 a1_3 a1_4 a1_5 a1_6 a1_7).bind fun t290 => (spec_Meet.j0 k (!t290) a0_0 a0_1 a0_2 a0_3 a0_4 a0_5 a0_6 a0_7 a1_0 a1_1 a1_2 a1_3 a1_4 a1_5 a1_6 a1_7)) else (spec_Meet.j0 k true a0_0 a0_1 a0_2 a0_3 a0_4 a0_5 a0_6 a0_7 a1_0 a1_1 a1_2 a1_3 a1_4 a1_5 a1_6 a1_7))

def spec_Meet.T5 : Bool × List (List Nat × List Nat) := (true, [([], []), ([0], [0]), ([1], [1]), ([], []), ([3], [3]), ([4], [4]), ([2, 5], [2, 5]), ([], []), ([7], [7]), ([8], [8]), ([], []), ([10], [10]), ([11], [11]), ([9, 12, 6], [9, 12]), ([], []), ([14], [14]), ([15], [15]), ([], []), ([17], [17]), ([18], [18]), ([16, 19, 13], [16, 19]), ([], []), ([21], [21]), ([22], [22]), ([], []), ([24], [24]), ([25], [25]), ([23, 26, 20], [23, 26]), ([6, 13, 20, 27, 27], [6, 13, 20, 27]), ([], []), ([29, 28, 28, 0, 1, 2, 3, 4, 5, 6, 7, 8, 9, 10, 11, 12, 13, 14, 15, 16, 17, 18, 19, 20, 21, 22, 23, 24, 25, 26, 27, 28, 29], [28, 29])])

def spec_Meet.B5 : List Nat := [0, 1, 3, 0, 8, 24, 63, 0, 128, 384, 0, 1024, 3072, 8191, 0, 16384, 49152, 0, 131072, 393216, 1048575, 0, 2097152, 6291456, 0, 16777216, 50331648, 134217727, 268435455, 0, 1073741823]

theorem spec_Meet.tab5 : rtab .any (opsOf Try.f12 5) = spec_Meet.T5 := by kernel_rfl

theorem spec_Meet.bits5 : waitsOk spec_Meet.T5.2 spec_Meet.B5 = true := by kernel_rfl

theorem put8 {w : World} {p : Nat} {t : TypeId} {c0 c1 c2 c3 c4 c5 c6 c7 u0 u1 u2 u3 u4 u5 u6 u7 : Value} (h : w.heap[p]? = some (.cells #[c0, c1, c2, c3, c4, c5, c6, c7] t (0, 0))) :
  (((((((((w.setCell ⟨p, 0, none⟩ u0).setCell ⟨p, 1, none⟩ u1).setCell ⟨p, 2, none⟩ u2).setCell ⟨p, 3, none⟩ u3).setCell ⟨p, 4, none⟩ u4).setCell ⟨p, 5, none⟩ u5).setCell ⟨p, 6, none⟩ u6).setCell ⟨p, 7, none⟩ u7)).heap[p]? = some (.cells #[u0, u1, u2, u3, u4, u5, u6, u7] t (0, 0)) := by
 have h1 := z6q h 0 u0 (cs' := #[u0, c1, c2, c3, c4, c5, c6, c7]) rfl
 have h2 := z6q h1 1 u1 (cs' := #[u0, u1, c2, c3, c4, c5, c6, c7]) rfl
 have h3 := z6q h2 2 u2 (cs' := #[u0, u1, u2, c3, c4, c5, c6, c7]) rfl
 have h4 := z6q h3 3 u3 (cs' := #[u0, u1, u2, u3, c4, c5, c6, c7]) rfl
 have h5 := z6q h4 4 u4 (cs' := #[u0, u1, u2, u3, u4, c5, c6, c7]) rfl
 have h6 := z6q h5 5 u5 (cs' := #[u0, u1, u2, u3, u4, u5, c6, c7]) rfl
 have h7 := z6q h6 6 u6 (cs' := #[u0, u1, u2, u3, u4, u5, u6, c7]) rfl
 have h8 := z6q h7 7 u7 (cs' := #[u0, u1, u2, u3, u4, u5, u6, u7]) rfl
 exact h8
theorem far8 {w : World} {g p : Nat} {t : TypeId} {cs : Array Value} {u0 u1 u2 u3 u4 u5 u6 u7 : Value} (h : w.heap[g]? = some (.cells cs t (0, 0))) (hne : g ≠ p) :
  (((((((((w.setCell ⟨p, 0, none⟩ u0).setCell ⟨p, 1, none⟩ u1).setCell ⟨p, 2, none⟩ u2).setCell ⟨p, 3, none⟩ u3).setCell ⟨p, 4, none⟩ u4).setCell ⟨p, 5, none⟩ u5).setCell ⟨p, 6, none⟩ u6).setCell ⟨p, 7, none⟩ u7)).heap[g]? = some (.cells cs t (0, 0)) := (z18q (z18q (z18q (z18q (z18q (z18q (z18q (z18q h (p := ⟨p, 0, none⟩) hne _) (p := ⟨p, 1, none⟩) hne _) (p := ⟨p, 2, none⟩) hne _) (p := ⟨p, 3, none⟩) hne _) (p := ⟨p, 4, none⟩) hne _) (p := ⟨p, 5, none⟩) hne _) (p := ⟨p, 6, none⟩) hne _) (p := ⟨p, 7, none⟩) hne _)
theorem below_put8 {B : Nat} {a w : World} {p : Nat} {u0 u1 u2 u3 u4 u5 u6 u7 : Value} (h : Below B a w) (hg : B ≤ p) : Below B a (((((((((w.setCell ⟨p, 0, none⟩ u0).setCell ⟨p, 1, none⟩ u1).setCell ⟨p, 2, none⟩ u2).setCell ⟨p, 3, none⟩ u3).setCell ⟨p, 4, none⟩ u4).setCell ⟨p, 5, none⟩ u5).setCell ⟨p, 6, none⟩ u6).setCell ⟨p, 7, none⟩ u7)) := ((((((((((((((((h).setCell (p := ⟨p, 0, none⟩) hg _)).setCell (p := ⟨p, 1, none⟩) hg _)).setCell (p := ⟨p, 2, none⟩) hg _)).setCell (p := ⟨p, 3, none⟩) hg _)).setCell (p := ⟨p, 4, none⟩) hg _)).setCell (p := ⟨p, 5, none⟩) hg _)).setCell (p := ⟨p, 6, none⟩) hg _)).setCell (p := ⟨p, 7, none⟩) hg _)
theorem cell_far8 {w : World} {b j p : Nat} {v : Value} {u0 u1 u2 u3 u4 u5 u6 u7 : Value} (h : w.cell? ⟨b, j, none⟩ = some v) (hne : b ≠ p) :
  (((((((((w.setCell ⟨p, 0, none⟩ u0).setCell ⟨p, 1, none⟩ u1).setCell ⟨p, 2, none⟩ u2).setCell ⟨p, 3, none⟩ u3).setCell ⟨p, 4, none⟩ u4).setCell ⟨p, 5, none⟩ u5).setCell ⟨p, 6, none⟩ u6).setCell ⟨p, 7, none⟩ u7)).cell? ⟨b, j, none⟩ = some v := ((z9q (a := ⟨b, j, none⟩) (p := ⟨p, 7, none⟩) hne _).trans ((z9q (a := ⟨b, j, none⟩) (p := ⟨p, 6, none⟩) hne _).trans ((z9q (a := ⟨b, j, none⟩) (p := ⟨p, 5, none⟩) hne _).trans ((z9q (a := ⟨b, j, none⟩) (p := ⟨p, 4, none⟩) hne _).trans ((z9q (a := ⟨b, j, none⟩) (p := ⟨p, 3, none⟩) hne _).trans ((z9q (a := ⟨b, j, none⟩) (p := ⟨p, 2, none⟩) hne _).trans ((z9q (a := ⟨b, j, none⟩) (p := ⟨p, 1, none⟩) hne _).trans ((z9q (a := ⟨b, j, none⟩) (p := ⟨p, 0, none⟩) hne _).trans h))))))))
theorem cell_drew {W : World} {b i : Nat} {v : Value} (h : W.cell? ⟨b, i, none⟩ = some v) : W.drew.cell? ⟨b, i, none⟩ = some v := h
theorem alloc_drew {W : World} {o : Obj} {b i : Nat} {v : Value} (h : W.drew.cell? ⟨b, i, none⟩ = some v) : (W.alloc o).drew.cell? ⟨b, i, none⟩ = some v :=
 pw_cell_below (z7q (Below.refl W.heap.size W) o) (show W.cell? ⟨b, i, none⟩ = some v from h)
theorem alloc_swap {W : World} {o o' : Obj} {b i : Nat} {v : Value} (h : (W.alloc o).cell? ⟨b, i, none⟩ = some v) (hlt : b < W.heap.size) : (W.alloc o').cell? ⟨b, i, none⟩ = some v :=
 ((z7q (Below.refl W.heap.size W) o').cell (p := ⟨b, i, none⟩) hlt).trans (((z7q (Below.refl W.heap.size W) o).cell (p := ⟨b, i, none⟩) hlt).symm.trans h)
set_option maxHeartbeats 8000000 in
set_option maxRecDepth 100000 in
theorem spec_Meet.calls (k : Nat) (a0_0 : Int) (a0_1 : Int) (a0_2 : Bool) (a0_3 : Bool) (a0_4 : Int) (a0_5 : Int) (a0_6 : Bool) (a0_7 : Bool) (a1_0 : Int) (a1_1 : Int) (a1_2 : Bool) (a1_3 : Bool) (a1_4 : Int) (a1_5 : Int) (a1_6 : Bool) (a1_7 : Bool) (r1 : Int) (r2 : Int) (r3 : Bool) (r4 : Bool) (r5 : Int) (r6 : Int) (r7 : Bool) (r8 : Bool) (r9 : Bool) (w : World) (h : spec_Meet.f k a0_0 a0_1 a0_2 a0_3 a0_4 a0_5 a0_6 a0_7 a1_0 a1_1 a1_2 a1_3 a1_4 a1_5 a1_6 a1_7 = some (r1, r2, r3, r4, r5, r6, r7, r8, r9)) :
  Calls Try.prog 12 #[.agg #[.int .i64 a0_0, .int .i64 a0_1, .bool a0_2, .bool a0_3, .int .i64 a0_4, .int .i64 a0_5, .bool a0_6, .bool a0_7], .agg #[.int .i64 a1_0, .int .i64 a1_1, .bool a1_2, .bool a1_3, .int .i64 a1_4, .int .i64 a1_5, .bool a1_6, .bool a1_7]] w fun e w' => e = .returned (.tuple #[.agg #[.int .i64 r1, .int .i64 r2, .bool r3, .bool r4, .int .i64 r5, .int .i64 r6, .bool r7, .bool r8], .bool r9]) ∧ Below w.heap.size w w' := by
 have hb0 : Below w.heap.size w (((w.alloc (.cells #[.int .i64 a0_0, .int .i64 a0_1, .bool a0_2, .bool a0_3, .int .i64 a0_4, .int .i64 a0_5, .bool a0_6, .bool a0_7] 26)).alloc (.cells #[.int .i64 a1_0, .int .i64 a1_1, .bool a1_2, .bool a1_3, .int .i64 a1_4, .int .i64 a1_5, .bool a1_6, .bool a1_7] 26)).alloc (.cells #[.int .i64 0, .int .i64 0, .bool false, .bool false, .int .i64 0, .int .i64 0, .bool false, .bool false] 26)) := z7q (z7q (z7q (Below.refl _ _) _) _) _
 have hk0 := z4q (z4q (blk_new w (.cells #[.int .i64 a0_0, .int .i64 a0_1, .bool a0_2, .bool a0_3, .int .i64 a0_4, .int .i64 a0_5, .bool a0_6, .bool a0_7] 26)) (.cells #[.int .i64 a1_0, .int .i64 a1_1, .bool a1_2, .bool a1_3, .int .i64 a1_4, .int .i64 a1_5, .bool a1_6, .bool a1_7] 26)) (.cells #[.int .i64 0, .int .i64 0, .bool false, .bool false, .int .i64 0, .int .i64 0, .bool false, .bool false] 26)
 have hk1 := z4q (blk_new (w.alloc (.cells #[.int .i64 a0_0, .int .i64 a0_1, .bool a0_2, .bool a0_3, .int .i64 a0_4, .int .i64 a0_5, .bool a0_6, .bool a0_7] 26)) (.cells #[.int .i64 a1_0, .int .i64 a1_1, .bool a1_2, .bool a1_3, .int .i64 a1_4, .int .i64 a1_5, .bool a1_6, .bool a1_7] 26)) (.cells #[.int .i64 0, .int .i64 0, .bool false, .bool false, .int .i64 0, .int .i64 0, .bool false, .bool false] 26)
 have hk2 := blk_new ((w.alloc (.cells #[.int .i64 a0_0, .int .i64 a0_1, .bool a0_2, .bool a0_3, .int .i64 a0_4, .int .i64 a0_5, .bool a0_6, .bool a0_7] 26)).alloc (.cells #[.int .i64 a1_0, .int .i64 a1_1, .bool a1_2, .bool a1_3, .int .i64 a1_4, .int .i64 a1_5, .bool a1_6, .bool a1_7] 26)) (.cells #[.int .i64 0, .int .i64 0, .bool false, .bool false, .int .i64 0, .int .i64 0, .bool false, .bool false] 26)
 simp only [World.size_alloc, Nat.add_assoc, Nat.reduceAdd] at hk1 hk2
 have HW := Lib.hid hb0; have HK0 := Lib.hid hk0; have HK1 := Lib.hid hk1; have HK2 := Lib.hid hk2; clear hb0 hk0 hk1 hk2
 unfold spec_Meet.f at h
 replace h := Option.bind_eq_some_iff.mp h
 obtain ⟨g, hg, h⟩ := h
 have HG := Lib.hid hg; clear hg
 cases g
 ·cases k with
  | zero => simp [spec_Meet.j0] at h
  | succ k =>
   obtain ⟨rfl, rfl, rfl, rfl, rfl, rfl, rfl, rfl, rfl⟩ : 0 = r1 ∧ 0 = r2 ∧ false = r3 ∧ false = r4 ∧ 0 = r5 ∧ 0 = r6 ∧ false = r7 ∧ false = r8 ∧ false = r9 := by simpa [spec_Meet.j0] using h
   clear h
   go_enter Try.func12, Try.ntmps12
   go_wp2_with fail
   refine (spec_GoodArea.calls _ _ _ _ _ _ _ _ _ _ HG.out).mono ?_; rintro e w1 ⟨rfl, hd⟩
   have HK0n := Lib.hid (z2q HK0.out hd); clear HK0; have HK0 := HK0n; clear HK0n
   have HK1n := Lib.hid (z2q HK1.out hd); clear HK1; have HK1 := HK1n; clear HK1n
   have HK2n := Lib.hid (z2q HK2.out hd); clear HK2; have HK2 := HK2n; clear HK2n
   have HWn := Lib.hid (z8q HW.out hd); clear HW; have HW := HWn; clear HWn; clear hd
   have q0 := z0q HK2.out 0; have q1 := z0q HK2.out 1; have q2 := z0q HK2.out 2; have q3 := z0q HK2.out 3; have q4 := z0q HK2.out 4; have q5 := z0q HK2.out 5; have q6 := z0q HK2.out 6; have q7 := z0q HK2.out 7
   simp only [List.getElem?_toArray, List.getElem?_cons_zero, List.getElem?_cons_succ] at q0 q1 q2 q3 q4 q5 q6 q7
   have fq0 := z1q HK2.out 0; have fq1 := z1q HK2.out 1; have fq2 := z1q HK2.out 2; have fq3 := z1q HK2.out 3; have fq4 := z1q HK2.out 4; have fq5 := z1q HK2.out 5; have fq6 := z1q HK2.out 6; have fq7 := z1q HK2.out 7
   go_wp2_with fail
   (try simp only [Exit.inBlock, Exit.then]); refine bodyPost_ret (results_ct rfl _ _ (w.heap.size + 2) 26 _ (0, 0) _ rfl (put8 HK2.out) Try.underlying26 rfl (by kernel_rfl)) rfl ?_
   exact ⟨rfl, below_put8 HW.out (by omega)⟩
 rw [if_pos rfl] at h
 replace h := Option.bind_eq_some_iff.mp h
 obtain ⟨g2, hg2, h⟩ := h
 have HG2 := Lib.hid hg2; clear hg2
 cases k with
 | zero => cases g2 <;> simp [spec_Meet.j0] at h
 | succ k =>
  cases g2
  ·obtain ⟨rfl, rfl, rfl, rfl, rfl, rfl, rfl, rfl, rfl⟩ : 0 = r1 ∧ 0 = r2 ∧ false = r3 ∧ false = r4 ∧ 0 = r5 ∧ 0 = r6 ∧ false = r7 ∧ false = r8 ∧ false = r9 := by simpa [spec_Meet.j0] using h
   clear h
   go_enter Try.func12, Try.ntmps12
   go_wp2_with fail
   refine (spec_GoodArea.calls _ _ _ _ _ _ _ _ _ _ HG.out).mono ?_; rintro e w1 ⟨rfl, hd⟩
   have HK0n := Lib.hid (z2q HK0.out hd); clear HK0; have HK0 := HK0n; clear HK0n
   have HK1n := Lib.hid (z2q HK1.out hd); clear HK1; have HK1 := HK1n; clear HK1n
   have HK2n := Lib.hid (z2q HK2.out hd); clear HK2; have HK2 := HK2n; clear HK2n
   have HWn := Lib.hid (z8q HW.out hd); clear HW; have HW := HWn; clear HWn; clear hd
   have y0 := z0q HK1.out 0; have y1 := z0q HK1.out 1; have y2 := z0q HK1.out 2; have y3 := z0q HK1.out 3; have y4 := z0q HK1.out 4; have y5 := z0q HK1.out 5; have y6 := z0q HK1.out 6; have y7 := z0q HK1.out 7
   simp only [List.getElem?_toArray, List.getElem?_cons_zero, List.getElem?_cons_succ] at y0 y1 y2 y3 y4 y5 y6 y7
   go_wp2_with fail
   refine (spec_GoodArea.calls _ _ _ _ _ _ _ _ _ _ HG2.out).mono ?_; rintro e w2 ⟨rfl, hd⟩
   have HK0n := Lib.hid (z2q HK0.out hd); clear HK0; have HK0 := HK0n; clear HK0n
   have HK1n := Lib.hid (z2q HK1.out hd); clear HK1; have HK1 := HK1n; clear HK1n
   have HK2n := Lib.hid (z2q HK2.out hd); clear HK2; have HK2 := HK2n; clear HK2n
   have HWn := Lib.hid (z8q HW.out hd); clear HW; have HW := HWn; clear HWn; clear hd
   have q0 := z0q HK2.out 0; have q1 := z0q HK2.out 1; have q2 := z0q HK2.out 2; have q3 := z0q HK2.out 3; have q4 := z0q HK2.out 4; have q5 := z0q HK2.out 5; have q6 := z0q HK2.out 6; have q7 := z0q HK2.out 7
   simp only [List.getElem?_toArray, List.getElem?_cons_zero, List.getElem?_cons_succ] at q0 q1 q2 q3 q4 q5 q6 q7
   have fq0 := z1q HK2.out 0; have fq1 := z1q HK2.out 1; have fq2 := z1q HK2.out 2; have fq3 := z1q HK2.out 3; have fq4 := z1q HK2.out 4; have fq5 := z1q HK2.out 5; have fq6 := z1q HK2.out 6; have fq7 := z1q HK2.out 7
   go_wp2_with fail
   (try simp only [Exit.inBlock, Exit.then]); refine bodyPost_ret (results_ct rfl _ _ (w.heap.size + 2) 26 _ (0, 0) _ rfl (put8 HK2.out) Try.underlying26 rfl (by kernel_rfl)) rfl ?_
   exact ⟨rfl, below_put8 HW.out (by omega)⟩
  simp only [spec_Meet.j0, Bool.not_true, Bool.false_eq_true, if_false] at h
  replace h := Option.bind_eq_some_iff.mp h
  obtain ⟨⟨m0, m1, m2, m3, m4, m5, m6, m7⟩, h_, h⟩ := h
  have HN1 := Lib.hid h_; clear h_
  replace h := Option.bind_eq_some_iff.mp h
  obtain ⟨⟨n0, n1, n2, n3, n4, n5, n6, n7⟩, h_, h⟩ := h
  have HN2 := Lib.hid h_; clear h_
  replace h := Option.bind_eq_some_iff.mp h
  obtain ⟨x0, h_, h⟩ := h
  have HX0 := Lib.hid h_; clear h_
  replace h := Option.bind_eq_some_iff.mp h
  obtain ⟨x1, h_, h⟩ := h
  have HX1 := Lib.hid h_; clear h_
  replace h := Option.bind_eq_some_iff.mp h
  obtain ⟨x2, h_, h⟩ := h
  have HX2 := Lib.hid h_; clear h_
  replace h := Option.bind_eq_some_iff.mp h
  obtain ⟨x3, h_, h⟩ := h
  have HX3 := Lib.hid h_; clear h_
  replace h := Option.bind_eq_some_iff.mp h
  obtain ⟨⟨u0, u1, u2, u3, u4, u5, u6, u7⟩, h_, h⟩ := h
  have HAR := Lib.hid h_; clear h_
  dsimp only at h
  have HH := Lib.hid h; clear h
  go_enter Try.func12, Try.ntmps12
  go_wp2_with fail
  refine (spec_GoodArea.calls _ _ _ _ _ _ _ _ _ _ HG.out).mono ?_; rintro e w1 ⟨rfl, hd⟩
  have HK0n := Lib.hid (z2q HK0.out hd); clear HK0; have HK0 := HK0n; clear HK0n
  have HK1n := Lib.hid (z2q HK1.out hd); clear HK1; have HK1 := HK1n; clear HK1n
  have HK2n := Lib.hid (z2q HK2.out hd); clear HK2; have HK2 := HK2n; clear HK2n
  have HWn := Lib.hid (z8q HW.out hd); clear HW; have HW := HWn; clear HWn; clear hd
  have y0 := z0q HK1.out 0; have y1 := z0q HK1.out 1; have y2 := z0q HK1.out 2; have y3 := z0q HK1.out 3; have y4 := z0q HK1.out 4; have y5 := z0q HK1.out 5; have y6 := z0q HK1.out 6; have y7 := z0q HK1.out 7
  simp only [List.getElem?_toArray, List.getElem?_cons_zero, List.getElem?_cons_succ] at y0 y1 y2 y3 y4 y5 y6 y7
  go_wp2_with fail
  refine (spec_GoodArea.calls _ _ _ _ _ _ _ _ _ _ HG2.out).mono ?_; rintro e w2 ⟨rfl, hd⟩
  clear y0 y1 y2 y3 y4 y5 y6 y7
  have HK0n := Lib.hid (z2q HK0.out hd); clear HK0; have HK0 := HK0n; clear HK0n
  have HK1n := Lib.hid (z2q HK1.out hd); clear HK1; have HK1 := HK1n; clear HK1n
  have HK2n := Lib.hid (z2q HK2.out hd); clear HK2; have HK2 := HK2n; clear HK2n
  have HWn := Lib.hid (z8q HW.out hd); clear HW; have HW := HWn; clear HWn; clear hd
  have y0 := z0q HK0.out 0; have y1 := z0q HK0.out 1; have y2 := z0q HK0.out 2; have y3 := z0q HK0.out 3; have y4 := z0q HK0.out 4; have y5 := z0q HK0.out 5; have y6 := z0q HK0.out 6; have y7 := z0q HK0.out 7
  simp only [List.getElem?_toArray, List.getElem?_cons_zero, List.getElem?_cons_succ] at y0 y1 y2 y3 y4 y5 y6 y7
  go_wp2_with fail
  refine (spec_l3Normal.calls _ _ _ _ _ _ _ _ _ _ _ _ _ _ _ _ _ HN1.out).mono ?_; rintro e w3 ⟨rfl, hd⟩
  clear y0 y1 y2 y3 y4 y5 y6 y7
  have HK0n := Lib.hid (z2q HK0.out hd); clear HK0; have HK0 := HK0n; clear HK0n
  have HK1n := Lib.hid (z2q HK1.out hd); clear HK1; have HK1 := HK1n; clear HK1n
  have HK2n := Lib.hid (z2q HK2.out hd); clear HK2; have HK2 := HK2n; clear HK2n
  have HWn := Lib.hid (z8q HW.out hd); clear HW; have HW := HWn; clear HWn; clear hd
  have y0 := z0q HK0.out 0; have y1 := z0q HK0.out 1; have y2 := z0q HK0.out 2; have y3 := z0q HK0.out 3; have y4 := z0q HK0.out 4; have y5 := z0q HK0.out 5; have y6 := z0q HK0.out 6; have y7 := z0q HK0.out 7
  simp only [List.getElem?_toArray, List.getElem?_cons_zero, List.getElem?_cons_succ] at y0 y1 y2 y3 y4 y5 y6 y7
  have fy0 := z1q HK0.out 0; have fy1 := z1q HK0.out 1; have fy2 := z1q HK0.out 2; have fy3 := z1q HK0.out 3; have fy4 := z1q HK0.out 4; have fy5 := z1q HK0.out 5; have fy6 := z1q HK0.out 6; have fy7 := z1q HK0.out 7
  have p0 := z0q HK1.out 0; have p1 := z0q HK1.out 1; have p2 := z0q HK1.out 2; have p3 := z0q HK1.out 3; have p4 := z0q HK1.out 4; have p5 := z0q HK1.out 5; have p6 := z0q HK1.out 6; have p7 := z0q HK1.out 7
  simp only [List.getElem?_toArray, List.getElem?_cons_zero, List.getElem?_cons_succ] at p0 p1 p2 p3 p4 p5 p6 p7
  go_wp2_with fail
  have h0_ := put8 (u0 := (.int .i64 m0)) (u1 := (.int .i64 m1)) (u2 := (.bool m2)) (u3 := (.bool m3)) (u4 := (.int .i64 m4)) (u5 := (.int .i64 m5)) (u6 := (.bool m6)) (u7 := (.bool m7)) HK0.out; have h1_ := far8 (p := w.heap.size) (u0 := (.int .i64 m0)) (u1 := (.int .i64 m1)) (u2 := (.bool m2)) (u3 := (.bool m3)) (u4 := (.int .i64 m4)) (u5 := (.int .i64 m5)) (u6 := (.bool m6)) (u7 := (.bool m7)) HK1.out (by omega); have h2_ := far8 (p := w.heap.size) (u0 := (.int .i64 m0)) (u1 := (.int .i64 m1)) (u2 := (.bool m2)) (u3 := (.bool m3)) (u4 := (.int .i64 m4)) (u5 := (.int .i64 m5)) (u6 := (.bool m6)) (u7 := (.bool m7)) HK2.out (by omega); have hw_ := below_put8 (p := w.heap.size) (u0 := (.int .i64 m0)) (u1 := (.int .i64 m1)) (u2 := (.bool m2)) (u3 := (.bool m3)) (u4 := (.int .i64 m4)) (u5 := (.int .i64 m5)) (u6 := (.bool m6)) (u7 := (.bool m7)) HW.out (Nat.le_refl _)
  refine (spec_l3Normal.calls _ _ _ _ _ _ _ _ _ _ _ _ _ _ _ _ _ HN2.out).mono ?_; rintro e w4 ⟨rfl, hd⟩
  clear HK0 HK1 HK2 HW y0 fy0 p0 y1 fy1 p1 y2 fy2 p2 y3 fy3 p3 y4 fy4 p4 y5 fy5 p5 y6 fy6 p6 y7 fy7 p7
  have HK0 := Lib.hid (z2q h0_ hd); have HK1 := Lib.hid (z2q h1_ hd); have HK2 := Lib.hid (z2q h2_ hd); have HW := Lib.hid (z8q hw_ hd); clear h0_ h1_ h2_ hw_ hd
  have p0 := z0q HK1.out 0; have p1 := z0q HK1.out 1; have p2 := z0q HK1.out 2; have p3 := z0q HK1.out 3; have p4 := z0q HK1.out 4; have p5 := z0q HK1.out 5; have p6 := z0q HK1.out 6; have p7 := z0q HK1.out 7
  simp only [List.getElem?_toArray, List.getElem?_cons_zero, List.getElem?_cons_succ] at p0 p1 p2 p3 p4 p5 p6 p7
  have fp0 := z1q HK1.out 0; have fp1 := z1q HK1.out 1; have fp2 := z1q HK1.out 2; have fp3 := z1q HK1.out 3; have fp4 := z1q HK1.out 4; have fp5 := z1q HK1.out 5; have fp6 := z1q HK1.out 6; have fp7 := z1q HK1.out 7
  go_upto_region 6 with fail
  go_cut [6] (fun v6 wx => ∃ g : Nat, v6 = .pointer (some ⟨g, 0, none⟩) ∧ g ≠ w.heap.size + 2 ∧ Hid (wx.heap[g]? = some (.cells #[.int .i64 u0, .int .i64 u1, .bool u2, .bool u3, .int .i64 u4, .int .i64 u5, .bool u6, .bool u7] 26 (0, 0))) ∧ Hid (wx.heap[w.heap.size + 2]? = some (.cells #[.int .i64 0, .int .i64 0, .bool false, .bool false, .int .i64 0, .int .i64 0, .bool false, .bool false] 26 (0, 0))) ∧ Hid (Below w.heap.size w wx))
  case first =>
   have lt0_ := z14q HK0.out; have lt1_ := z14q HK1.out; have lt2_ := z14q HK2.out
   have h0_ := far8 (p := w.heap.size + 1) (u0 := (.int .i64 n0)) (u1 := (.int .i64 n1)) (u2 := (.bool n2)) (u3 := (.bool n3)) (u4 := (.int .i64 n4)) (u5 := (.int .i64 n5)) (u6 := (.bool n6)) (u7 := (.bool n7)) HK0.out (by omega); have h1_ := put8 (u0 := (.int .i64 n0)) (u1 := (.int .i64 n1)) (u2 := (.bool n2)) (u3 := (.bool n3)) (u4 := (.int .i64 n4)) (u5 := (.int .i64 n5)) (u6 := (.bool n6)) (u7 := (.bool n7)) HK1.out; have h2_ := far8 (p := w.heap.size + 1) (u0 := (.int .i64 n0)) (u1 := (.int .i64 n1)) (u2 := (.bool n2)) (u3 := (.bool n3)) (u4 := (.int .i64 n4)) (u5 := (.int .i64 n5)) (u6 := (.bool n6)) (u7 := (.bool n7)) HK2.out (by omega); have hw_ := below_put8 (p := w.heap.size + 1) (u0 := (.int .i64 n0)) (u1 := (.int .i64 n1)) (u2 := (.bool n2)) (u3 := (.bool n3)) (u4 := (.int .i64 n4)) (u5 := (.int .i64 n5)) (u6 := (.bool n6)) (u7 := (.bool n7)) HW.out (by omega)
   clear HK0 HK1 HK2 HW; have HK0 := Lib.hid h0_; have HK1 := Lib.hid h1_; have HK2 := Lib.hid h2_; have HW := Lib.hid hw_; clear h0_ h1_ h2_ hw_
   have y0_0 := z0q HK0.out 0; have y0_1 := z0q HK0.out 1; have y0_4 := z0q HK0.out 4; have y0_5 := z0q HK0.out 5; have y1_0 := z0q HK1.out 0; have y1_1 := z0q HK1.out 1; have y1_4 := z0q HK1.out 4; have y1_5 := z0q HK1.out 5
   simp only [List.getElem?_toArray, List.getElem?_cons_zero, List.getElem?_cons_succ] at y0_0 y0_1 y0_4 y0_5 y1_0 y1_1 y1_4 y1_5
   first | go_region_held3 (fun w' => w'.cell? ⟨w.heap.size, 0, none⟩ = some (.int .i64 m0) ∧ w'.cell? ⟨w.heap.size, 1, none⟩ = some (.int .i64 m1) ∧ w'.cell? ⟨w.heap.size, 4, none⟩ = some (.int .i64 m4) ∧ w'.cell? ⟨w.heap.size, 5, none⟩ = some (.int .i64 m5) ∧ w'.cell? ⟨w.heap.size + 1, 0, none⟩ = some (.int .i64 n0) ∧ w'.cell? ⟨w.heap.size + 1, 1, none⟩ = some (.int .i64 n1) ∧ w'.cell? ⟨w.heap.size + 1, 4, none⟩ = some (.int .i64 n4) ∧ w'.cell? ⟨w.heap.size + 1, 5, none⟩ = some (.int .i64 n5))
     (first | (go_split_ands; (repeat' apply And.intro) <;> (first | with_reducible assumption | (with_reducible exact cell_drew (by assumption)) | (with_reducible exact pw_cell_below (by assumption) (by assumption)) | (with_reducible exact pw_cell_below (z7q (Below.refl _ _) _) (by assumption)) | (with_reducible exact alloc_drew (by assumption)) | (with_reducible exact alloc_swap (by assumption) (by assumption)) | (with_reducible exact cell_far8 (by assumption) (Nat.ne_of_lt (by assumption))) | (simp; done))))
     (first | (go_at_call_of 23 (Value.int .i64 m0); (with_reducible refine (spec_l3Max.calls _ _ _ _ HX0.out).mono ?_); rintro e w' ⟨rfl, hd0⟩; have hb := hd0.below; clear hd0; (with_reducible first | (have HK0n := Lib.hid (z2q HK0.out hb)) | (have HK0n := Lib.hid (z2q (z10q HK0.out) hb)) | (have HK0n := Lib.hid (z2q (z4q HK0.out _) hb)) | (have HK0n := Lib.hid (z2q (z10q (z4q HK0.out _)) hb))); (with_reducible first | (have HK1n := Lib.hid (z2q HK1.out hb)) | (have HK1n := Lib.hid (z2q (z10q HK1.out) hb)) | (have HK1n := Lib.hid (z2q (z4q HK1.out _) hb)) | (have HK1n := Lib.hid (z2q (z10q (z4q HK1.out _)) hb))); (with_reducible first | (have HK2n := Lib.hid (z2q HK2.out hb)) | (have HK2n := Lib.hid (z2q (z10q HK2.out) hb)) | (have HK2n := Lib.hid (z2q (z4q HK2.out _) hb)) | (have HK2n := Lib.hid (z2q (z10q (z4q HK2.out _)) hb))); (with_reducible first | (have HZn := Lib.hid (z2q HZ.out hb)) | (have HZn := Lib.hid (z2q (blk_new _ (.cells #[.int .i64 0, .int .i64 0, .bool false, .bool false, .int .i64 0, .int .i64 0, .bool false, .bool false] 26)) hb)) | (have HZn := Lib.hid (z2q (z10q (blk_new _ (.cells #[.int .i64 0, .int .i64 0, .bool false, .bool false, .int .i64 0, .int .i64 0, .bool false, .bool false] 26))) hb)) | (have HZn := True.intro)); (with_reducible first | (have HWn := Lib.hid (z8q HW.out hb)) | (have HWn := Lib.hid (z8q (z12q HW.out) hb)) | (have HWn := Lib.hid (z8q (z7q HW.out _) hb)) | (have HWn := Lib.hid (z8q (z12q (z7q HW.out _)) hb))); clear HK0; have HK0 := HK0n; clear HK0n; clear HK1; have HK1 := HK1n; clear HK1n; clear HK2; have HK2 := HK2n; clear HK2n; have lt0_ := z14q HK0.out; have lt1_ := z14q HK1.out; have lt2_ := z14q HK2.out; clear y0_0 y0_1 y0_4 y0_5 y1_0 y1_1 y1_4 y1_5; have y0_0 := z0q HK0.out 0; have y0_1 := z0q HK0.out 1; have y0_4 := z0q HK0.out 4; have y0_5 := z0q HK0.out 5; have y1_0 := z0q HK1.out 0; have y1_1 := z0q HK1.out 1; have y1_4 := z0q HK1.out 4; have y1_5 := z0q HK1.out 5; simp only [List.getElem?_toArray, List.getElem?_cons_zero, List.getElem?_cons_succ] at y0_0 y0_1 y0_4 y0_5 y1_0 y1_1 y1_4 y1_5; (try clear HZ); have HZ := HZn; clear HZn; (try (have hz_ := HZ.out; simp only [World.size_alloc, World.size_setCell] at hz_; clear HZ; have HZ := Lib.hid hz_; clear hz_)); clear HW; have HW := HWn; clear HWn; clear hb; (try clear z0 q0 z1 q1 z2 q2 z3 q3 z4 q4 z5 q5 z6 q6 z7 q7); (try (have z0 := z1q HZ.out 0; have q0 := z0q HZ.out 0; have z1 := z1q HZ.out 1; have q1 := z0q HZ.out 1; have z2 := z1q HZ.out 2; have q2 := z0q HZ.out 2; have z3 := z1q HZ.out 3; have q3 := z0q HZ.out 3; have z4 := z1q HZ.out 4; have q4 := z0q HZ.out 4; have z5 := z1q HZ.out 5; have q5 := z0q HZ.out 5; have z6 := z1q HZ.out 6; have q6 := z0q HZ.out 6; have z7 := z1q HZ.out 7; have q7 := z0q HZ.out 7; simp only [List.getElem?_toArray, List.getElem?_cons_zero, List.getElem?_cons_succ] at q0 q1 q2 q3 q4 q5 q6 q7; (try simp only [World.size_alloc, World.size_setCell] at z0 q0 z1 q1 z2 q2 z3 q3 z4 q4 z5 q5 z6 q6 z7 q7)))) | (go_at_call_of 23 (Value.int .i64 m1); (with_reducible refine (spec_l3Max.calls _ _ _ _ HX1.out).mono ?_); rintro e w' ⟨rfl, hd0⟩; have hb := hd0.below; clear hd0; (with_reducible first | (have HK0n := Lib.hid (z2q HK0.out hb)) | (have HK0n := Lib.hid (z2q (z10q HK0.out) hb)) | (have HK0n := Lib.hid (z2q (z4q HK0.out _) hb)) | (have HK0n := Lib.hid (z2q (z10q (z4q HK0.out _)) hb))); (with_reducible first | (have HK1n := Lib.hid (z2q HK1.out hb)) | (have HK1n := Lib.hid (z2q (z10q HK1.out) hb)) | (have HK1n := Lib.hid (z2q (z4q HK1.out _) hb)) | (have HK1n := Lib.hid (z2q (z10q (z4q HK1.out _)) hb))); (with_reducible first | (have HK2n := Lib.hid (z2q HK2.out hb)) | (have HK2n := Lib.hid (z2q (z10q HK2.out) hb)) | (have HK2n := Lib.hid (z2q (z4q HK2.out _) hb)) | (have HK2n := Lib.hid (z2q (z10q (z4q HK2.out _)) hb))); (with_reducible first | (have HZn := Lib.hid (z2q HZ.out hb)) | (have HZn := Lib.hid (z2q (blk_new _ (.cells #[.int .i64 0, .int .i64 0, .bool false, .bool false, .int .i64 0, .int .i64 0, .bool false, .bool false] 26)) hb)) | (have HZn := Lib.hid (z2q (z10q (blk_new _ (.cells #[.int .i64 0, .int .i64 0, .bool false, .bool false, .int .i64 0, .int .i64 0, .bool false, .bool false] 26))) hb)) | (have HZn := True.intro)); (with_reducible first | (have HWn := Lib.hid (z8q HW.out hb)) | (have HWn := Lib.hid (z8q (z12q HW.out) hb)) | (have HWn := Lib.hid (z8q (z7q HW.out _) hb)) | (have HWn := Lib.hid (z8q (z12q (z7q HW.out _)) hb))); clear HK0; have HK0 := HK0n; clear HK0n; clear HK1; have HK1 := HK1n; clear HK1n; clear HK2; have HK2 := HK2n; clear HK2n; have lt0_ := z14q HK0.out; have lt1_ := z14q HK1.out; have lt2_ := z14q HK2.out; clear y0_0 y0_1 y0_4 y0_5 y1_0 y1_1 y1_4 y1_5; have y0_0 := z0q HK0.out 0; have y0_1 := z0q HK0.out 1; have y0_4 := z0q HK0.out 4; have y0_5 := z0q HK0.out 5; have y1_0 := z0q HK1.out 0; have y1_1 := z0q HK1.out 1; have y1_4 := z0q HK1.out 4; have y1_5 := z0q HK1.out 5; simp only [List.getElem?_toArray, List.getElem?_cons_zero, List.getElem?_cons_succ] at y0_0 y0_1 y0_4 y0_5 y1_0 y1_1 y1_4 y1_5; (try clear HZ); have HZ := HZn; clear HZn; (try (have hz_ := HZ.out; simp only [World.size_alloc, World.size_setCell] at hz_; clear HZ; have HZ := Lib.hid hz_; clear hz_)); clear HW; have HW := HWn; clear HWn; clear hb; (try clear z0 q0 z1 q1 z2 q2 z3 q3 z4 q4 z5 q5 z6 q6 z7 q7); (try (have z0 := z1q HZ.out 0; have q0 := z0q HZ.out 0; have z1 := z1q HZ.out 1; have q1 := z0q HZ.out 1; have z2 := z1q HZ.out 2; have q2 := z0q HZ.out 2; have z3 := z1q HZ.out 3; have q3 := z0q HZ.out 3; have z4 := z1q HZ.out 4; have q4 := z0q HZ.out 4; have z5 := z1q HZ.out 5; have q5 := z0q HZ.out 5; have z6 := z1q HZ.out 6; have q6 := z0q HZ.out 6; have z7 := z1q HZ.out 7; have q7 := z0q HZ.out 7; simp only [List.getElem?_toArray, List.getElem?_cons_zero, List.getElem?_cons_succ] at q0 q1 q2 q3 q4 q5 q6 q7; (try simp only [World.size_alloc, World.size_setCell] at z0 q0 z1 q1 z2 q2 z3 q3 z4 q4 z5 q5 z6 q6 z7 q7)))) | (go_at_call_of 24 (Value.int .i64 m4); (with_reducible refine (spec_l3Min.calls _ _ _ _ HX2.out).mono ?_); rintro e w' ⟨rfl, hd0⟩; have hb := hd0.below; clear hd0; (with_reducible first | (have HK0n := Lib.hid (z2q HK0.out hb)) | (have HK0n := Lib.hid (z2q (z10q HK0.out) hb)) | (have HK0n := Lib.hid (z2q (z4q HK0.out _) hb)) | (have HK0n := Lib.hid (z2q (z10q (z4q HK0.out _)) hb))); (with_reducible first | (have HK1n := Lib.hid (z2q HK1.out hb)) | (have HK1n := Lib.hid (z2q (z10q HK1.out) hb)) | (have HK1n := Lib.hid (z2q (z4q HK1.out _) hb)) | (have HK1n := Lib.hid (z2q (z10q (z4q HK1.out _)) hb))); (with_reducible first | (have HK2n := Lib.hid (z2q HK2.out hb)) | (have HK2n := Lib.hid (z2q (z10q HK2.out) hb)) | (have HK2n := Lib.hid (z2q (z4q HK2.out _) hb)) | (have HK2n := Lib.hid (z2q (z10q (z4q HK2.out _)) hb))); (with_reducible first | (have HZn := Lib.hid (z2q HZ.out hb)) | (have HZn := Lib.hid (z2q (blk_new _ (.cells #[.int .i64 0, .int .i64 0, .bool false, .bool false, .int .i64 0, .int .i64 0, .bool false, .bool false] 26)) hb)) | (have HZn := Lib.hid (z2q (z10q (blk_new _ (.cells #[.int .i64 0, .int .i64 0, .bool false, .bool false, .int .i64 0, .int .i64 0, .bool false, .bool false] 26))) hb)) | (have HZn := True.intro)); (with_reducible first | (have HWn := Lib.hid (z8q HW.out hb)) | (have HWn := Lib.hid (z8q (z12q HW.out) hb)) | (have HWn := Lib.hid (z8q (z7q HW.out _) hb)) | (have HWn := Lib.hid (z8q (z12q (z7q HW.out _)) hb))); clear HK0; have HK0 := HK0n; clear HK0n; clear HK1; have HK1 := HK1n; clear HK1n; clear HK2; have HK2 := HK2n; clear HK2n; have lt0_ := z14q HK0.out; have lt1_ := z14q HK1.out; have lt2_ := z14q HK2.out; clear y0_0 y0_1 y0_4 y0_5 y1_0 y1_1 y1_4 y1_5; have y0_0 := z0q HK0.out 0; have y0_1 := z0q HK0.out 1; have y0_4 := z0q HK0.out 4; have y0_5 := z0q HK0.out 5; have y1_0 := z0q HK1.out 0; have y1_1 := z0q HK1.out 1; have y1_4 := z0q HK1.out 4; have y1_5 := z0q HK1.out 5; simp only [List.getElem?_toArray, List.getElem?_cons_zero, List.getElem?_cons_succ] at y0_0 y0_1 y0_4 y0_5 y1_0 y1_1 y1_4 y1_5; (try clear HZ); have HZ := HZn; clear HZn; (try (have hz_ := HZ.out; simp only [World.size_alloc, World.size_setCell] at hz_; clear HZ; have HZ := Lib.hid hz_; clear hz_)); clear HW; have HW := HWn; clear HWn; clear hb; (try clear z0 q0 z1 q1 z2 q2 z3 q3 z4 q4 z5 q5 z6 q6 z7 q7); (try (have z0 := z1q HZ.out 0; have q0 := z0q HZ.out 0; have z1 := z1q HZ.out 1; have q1 := z0q HZ.out 1; have z2 := z1q HZ.out 2; have q2 := z0q HZ.out 2; have z3 := z1q HZ.out 3; have q3 := z0q HZ.out 3; have z4 := z1q HZ.out 4; have q4 := z0q HZ.out 4; have z5 := z1q HZ.out 5; have q5 := z0q HZ.out 5; have z6 := z1q HZ.out 6; have q6 := z0q HZ.out 6; have z7 := z1q HZ.out 7; have q7 := z0q HZ.out 7; simp only [List.getElem?_toArray, List.getElem?_cons_zero, List.getElem?_cons_succ] at q0 q1 q2 q3 q4 q5 q6 q7; (try simp only [World.size_alloc, World.size_setCell] at z0 q0 z1 q1 z2 q2 z3 q3 z4 q4 z5 q5 z6 q6 z7 q7)))) | (go_at_call_of 24 (Value.int .i64 m5); (with_reducible refine (spec_l3Min.calls _ _ _ _ HX3.out).mono ?_); rintro e w' ⟨rfl, hd0⟩; have hb := hd0.below; clear hd0; (with_reducible first | (have HK0n := Lib.hid (z2q HK0.out hb)) | (have HK0n := Lib.hid (z2q (z10q HK0.out) hb)) | (have HK0n := Lib.hid (z2q (z4q HK0.out _) hb)) | (have HK0n := Lib.hid (z2q (z10q (z4q HK0.out _)) hb))); (with_reducible first | (have HK1n := Lib.hid (z2q HK1.out hb)) | (have HK1n := Lib.hid (z2q (z10q HK1.out) hb)) | (have HK1n := Lib.hid (z2q (z4q HK1.out _) hb)) | (have HK1n := Lib.hid (z2q (z10q (z4q HK1.out _)) hb))); (with_reducible first | (have HK2n := Lib.hid (z2q HK2.out hb)) | (have HK2n := Lib.hid (z2q (z10q HK2.out) hb)) | (have HK2n := Lib.hid (z2q (z4q HK2.out _) hb)) | (have HK2n := Lib.hid (z2q (z10q (z4q HK2.out _)) hb))); (with_reducible first | (have HZn := Lib.hid (z2q HZ.out hb)) | (have HZn := Lib.hid (z2q (blk_new _ (.cells #[.int .i64 0, .int .i64 0, .bool false, .bool false, .int .i64 0, .int .i64 0, .bool false, .bool false] 26)) hb)) | (have HZn := Lib.hid (z2q (z10q (blk_new _ (.cells #[.int .i64 0, .int .i64 0, .bool false, .bool false, .int .i64 0, .int .i64 0, .bool false, .bool false] 26))) hb)) | (have HZn := True.intro)); (with_reducible first | (have HWn := Lib.hid (z8q HW.out hb)) | (have HWn := Lib.hid (z8q (z12q HW.out) hb)) | (have HWn := Lib.hid (z8q (z7q HW.out _) hb)) | (have HWn := Lib.hid (z8q (z12q (z7q HW.out _)) hb))); clear HK0; have HK0 := HK0n; clear HK0n; clear HK1; have HK1 := HK1n; clear HK1n; clear HK2; have HK2 := HK2n; clear HK2n; have lt0_ := z14q HK0.out; have lt1_ := z14q HK1.out; have lt2_ := z14q HK2.out; clear y0_0 y0_1 y0_4 y0_5 y1_0 y1_1 y1_4 y1_5; have y0_0 := z0q HK0.out 0; have y0_1 := z0q HK0.out 1; have y0_4 := z0q HK0.out 4; have y0_5 := z0q HK0.out 5; have y1_0 := z0q HK1.out 0; have y1_1 := z0q HK1.out 1; have y1_4 := z0q HK1.out 4; have y1_5 := z0q HK1.out 5; simp only [List.getElem?_toArray, List.getElem?_cons_zero, List.getElem?_cons_succ] at y0_0 y0_1 y0_4 y0_5 y1_0 y1_1 y1_4 y1_5; (try clear HZ); have HZ := HZn; clear HZn; (try (have hz_ := HZ.out; simp only [World.size_alloc, World.size_setCell] at hz_; clear HZ; have HZ := Lib.hid hz_; clear hz_)); clear HW; have HW := HWn; clear HWn; clear hb; (try clear z0 q0 z1 q1 z2 q2 z3 q3 z4 q4 z5 q5 z6 q6 z7 q7); (try (have z0 := z1q HZ.out 0; have q0 := z0q HZ.out 0; have z1 := z1q HZ.out 1; have q1 := z0q HZ.out 1; have z2 := z1q HZ.out 2; have q2 := z0q HZ.out 2; have z3 := z1q HZ.out 3; have q3 := z0q HZ.out 3; have z4 := z1q HZ.out 4; have q4 := z0q HZ.out 4; have z5 := z1q HZ.out 5; have q5 := z0q HZ.out 5; have z6 := z1q HZ.out 6; have q6 := z0q HZ.out 6; have z7 := z1q HZ.out 7; have q7 := z0q HZ.out 7; simp only [List.getElem?_toArray, List.getElem?_cons_zero, List.getElem?_cons_succ] at q0 q1 q2 q3 q4 q5 q6 q7; (try simp only [World.size_alloc, World.size_setCell] at z0 q0 z1 q1 z2 q2 z3 q3 z4 q4 z5 q5 z6 q6 z7 q7)))) | (go_at_call 21; (with_reducible refine (spec_l3Area.calls _ _ _ _ _ _ _ _ _ _ _ _ _ HAR.out).mono ?_); rintro e w' ⟨rfl, hb⟩; (with_reducible first | (have HK0n := Lib.hid (z2q HK0.out hb)) | (have HK0n := Lib.hid (z2q (z10q HK0.out) hb)) | (have HK0n := Lib.hid (z2q (z4q HK0.out _) hb)) | (have HK0n := Lib.hid (z2q (z10q (z4q HK0.out _)) hb))); (with_reducible first | (have HK1n := Lib.hid (z2q HK1.out hb)) | (have HK1n := Lib.hid (z2q (z10q HK1.out) hb)) | (have HK1n := Lib.hid (z2q (z4q HK1.out _) hb)) | (have HK1n := Lib.hid (z2q (z10q (z4q HK1.out _)) hb))); (with_reducible first | (have HK2n := Lib.hid (z2q HK2.out hb)) | (have HK2n := Lib.hid (z2q (z10q HK2.out) hb)) | (have HK2n := Lib.hid (z2q (z4q HK2.out _) hb)) | (have HK2n := Lib.hid (z2q (z10q (z4q HK2.out _)) hb))); (with_reducible first | (have HZn := Lib.hid (z2q HZ.out hb)) | (have HZn := Lib.hid (z2q (blk_new _ (.cells #[.int .i64 0, .int .i64 0, .bool false, .bool false, .int .i64 0, .int .i64 0, .bool false, .bool false] 26)) hb)) | (have HZn := Lib.hid (z2q (z10q (blk_new _ (.cells #[.int .i64 0, .int .i64 0, .bool false, .bool false, .int .i64 0, .int .i64 0, .bool false, .bool false] 26))) hb)) | (have HZn := True.intro)); (with_reducible first | (have HWn := Lib.hid (z8q HW.out hb)) | (have HWn := Lib.hid (z8q (z12q HW.out) hb)) | (have HWn := Lib.hid (z8q (z7q HW.out _) hb)) | (have HWn := Lib.hid (z8q (z12q (z7q HW.out _)) hb))); clear HK0; have HK0 := HK0n; clear HK0n; clear HK1; have HK1 := HK1n; clear HK1n; clear HK2; have HK2 := HK2n; clear HK2n; have lt0_ := z14q HK0.out; have lt1_ := z14q HK1.out; have lt2_ := z14q HK2.out; clear y0_0 y0_1 y0_4 y0_5 y1_0 y1_1 y1_4 y1_5; have y0_0 := z0q HK0.out 0; have y0_1 := z0q HK0.out 1; have y0_4 := z0q HK0.out 4; have y0_5 := z0q HK0.out 5; have y1_0 := z0q HK1.out 0; have y1_1 := z0q HK1.out 1; have y1_4 := z0q HK1.out 4; have y1_5 := z0q HK1.out 5; simp only [List.getElem?_toArray, List.getElem?_cons_zero, List.getElem?_cons_succ] at y0_0 y0_1 y0_4 y0_5 y1_0 y1_1 y1_4 y1_5; (try clear HZ); have HZ := HZn; clear HZn; (try (have hz_ := HZ.out; simp only [World.size_alloc, World.size_setCell] at hz_; clear HZ; have HZ := Lib.hid hz_; clear hz_)); clear HW; have HW := HWn; clear HWn; clear hb; (try clear z0 q0 z1 q1 z2 q2 z3 q3 z4 q4 z5 q5 z6 q6 z7 q7); (try (have z0 := z1q HZ.out 0; have q0 := z0q HZ.out 0; have z1 := z1q HZ.out 1; have q1 := z0q HZ.out 1; have z2 := z1q HZ.out 2; have q2 := z0q HZ.out 2; have z3 := z1q HZ.out 3; have q3 := z0q HZ.out 3; have z4 := z1q HZ.out 4; have q4 := z0q HZ.out 4; have z5 := z1q HZ.out 5; have q5 := z0q HZ.out 5; have z6 := z1q HZ.out 6; have q6 := z0q HZ.out 6; have z7 := z1q HZ.out 7; have q7 := z0q HZ.out 7; simp only [List.getElem?_toArray, List.getElem?_cons_zero, List.getElem?_cons_succ] at q0 q1 q2 q3 q4 q5 q6 q7; (try simp only [World.size_alloc, World.size_setCell] at z0 q0 z1 q1 z2 q2 z3 q3 z4 q4 z5 q5 z6 q6 z7 q7))))) | fail
   all_goals
    go_wp2_with fail
    go_meet
    first
    | with_reducible exact ⟨_, rfl, Nat.ne_of_gt (by assumption), Lib.hid (blk_new _ _), Lib.hid (z4q HK2.out _), Lib.hid (z7q HW.out _)⟩
    | with_reducible exact ⟨_, rfl, Nat.ne_of_gt (by assumption), Lib.hid (put8 HZ.out), Lib.hid (far8 HK2.out (Nat.ne_of_lt (by assumption))), Lib.hid (below_put8 HW.out (Nat.le_of_lt (by assumption)))⟩
  case rest =>
   obtain ⟨g, rfl, hne, HGm, HK2, HW⟩ := hcut
   have hne2 := hne.symm
   have p0 := z0q HGm.out 0; have p1 := z0q HGm.out 1; have p2 := z0q HGm.out 2; have p3 := z0q HGm.out 3; have p4 := z0q HGm.out 4; have p5 := z0q HGm.out 5; have p6 := z0q HGm.out 6; have p7 := z0q HGm.out 7
   simp only [List.getElem?_toArray, List.getElem?_cons_zero, List.getElem?_cons_succ] at p0 p1 p2 p3 p4 p5 p6 p7
   have q0 := z0q HK2.out 0; have q1 := z0q HK2.out 1; have q2 := z0q HK2.out 2; have q3 := z0q HK2.out 3; have q4 := z0q HK2.out 4; have q5 := z0q HK2.out 5; have q6 := z0q HK2.out 6; have q7 := z0q HK2.out 7
   simp only [List.getElem?_toArray, List.getElem?_cons_zero, List.getElem?_cons_succ] at q0 q1 q2 q3 q4 q5 q6 q7
   have fq0 := z1q HK2.out 0; have fq1 := z1q HK2.out 1; have fq2 := z1q HK2.out 2; have fq3 := z1q HK2.out 3; have fq4 := z1q HK2.out 4; have fq5 := z1q HK2.out 5; have fq6 := z1q HK2.out 6; have fq7 := z1q HK2.out 7
   have hh := HH.out
   by_cases c1 : u0 > u4
   ·rw [if_pos c1] at hh; simp only [Option.some.injEq, Prod.mk.injEq] at hh; obtain ⟨rfl, rfl, rfl, rfl, rfl, rfl, rfl, rfl, rfl⟩ := hh
    have b1 : decide (u4 < u0) = true := decide_eq_true c1
    clear c1
    go_wp2_with fail
    (try simp only [Exit.inBlock, Exit.then]); refine bodyPost_ret (results_ct rfl _ _ (w.heap.size + 2) 26 _ (0, 0) _ rfl (put8 HK2.out) Try.underlying26 rfl (by kernel_rfl)) rfl ?_
    exact ⟨rfl, below_put8 HW.out (by omega)⟩
   rw [if_neg c1] at hh
   have b1 : decide (u4 < u0) = false := decide_eq_false c1
   by_cases c2 : u1 > u5
   ·rw [if_pos c2] at hh; simp only [Option.some.injEq, Prod.mk.injEq] at hh; obtain ⟨rfl, rfl, rfl, rfl, rfl, rfl, rfl, rfl, rfl⟩ := hh
    have b2 : decide (u5 < u1) = true := decide_eq_true c2
    clear c1 c2
    go_wp2_with fail
    (try simp only [Exit.inBlock, Exit.then]); refine bodyPost_ret (results_ct rfl _ _ (w.heap.size + 2) 26 _ (0, 0) _ rfl (put8 HK2.out) Try.underlying26 rfl (by kernel_rfl)) rfl ?_
    exact ⟨rfl, below_put8 HW.out (by omega)⟩
   rw [if_neg c2] at hh; simp only [Option.some.injEq, Prod.mk.injEq] at hh; obtain ⟨rfl, rfl, rfl, rfl, rfl, rfl, rfl, rfl, rfl⟩ := hh
   have b2 : decide (u5 < u1) = false := decide_eq_false c2
   clear c1 c2
   go_wp2_with fail
   (try simp only [Exit.inBlock, Exit.then]); refine bodyPost_ret (results_ct rfl _ _ (w.heap.size + 2) 26 _ (0, 0) _ rfl (put8 HK2.out) Try.underlying26 rfl (by kernel_rfl)) rfl ?_
   exact ⟨rfl, below_put8 HW.out (by omega)⟩

/-! ### spec_Without: function 8 -/

mutual
def spec_Without.j0 : Nat → Bool → Int → Int → Bool → Bool → Int → Int → Bool → Bool → Int → Int → Bool → Bool → Int → Int → Bool → Bool → Option ((List (S26)))
 | 0, _, _, _, _, _, _, _, _, _, _, _, _, _, _, _, _, _ => none
 | k + 1, x15, x321000, x321001, x321002, x321003, x321004, x321005, x321006, x321007, x322000, x322001, x322002, x322003, x322004, x322005, x322006, x322007 => if x15 = true then (some ([] : List (S26))) else ((spec_l3Normal.f x321000 x321001 x321002 x321003 x321004 x321005 x321006 x321007).bind fun bt324 => ((spec_Meet.f k bt324.1 bt324.2.1 bt324.2.2.1 bt324.2.2.2.1 bt324.2.2.2.2.1 bt324.2.2.2.2.2.1 bt324.2.2.2.2.2.2.1 bt324.2.2.2.2.2.2.2 x322000 x322001 x322002 x322003 x322004 x322005 x322006 x322007).bind fun bt332 => (if bt332.2.2.2.2.2.2.2.2 = true then (if bt324.1 < bt332.1 then ((spec_l3Area.f bt324.1 bt324.2.1 (wrap64 (bt332.1 - 1)) bt324.2.2.2.2.2.1).bind fun bt353 => (if ([] : List (S26)).length < 2932031007402 then (spec_Without.j1 k (([] : List (S26)) ++ [(⟨(⟨bt353.1, bt353.2.1, bt353.2.2.1, bt353.2.2.2.1⟩ : S24), (⟨bt353.2.2.2.2.1, bt353.2.2.2.2.2.1, bt353.2.2.2.2.2.2.1, bt353.2.2.2.2.2.2.2⟩ : S24)⟩ : S26)]) bt324.1 bt324.2.1 bt324.2.2.1 bt324.2.2.2.1 bt324.2.2.2.2.1 bt324.2.2.2.2.2.1 bt324.2.2.2.2.2.2.1 bt324.2.2.2.2.2.2.2 bt332.1 bt332.2.1 bt332.2.2.1 bt332.2.2.2.1 bt332.2.2.2.2.1 bt332.2.2.2.2.2.1 bt332.2.2.2.2.2.2.1 bt332.2.2.2.2.2.2.2.1) else (none))) else (spec_Without.j1 k ([] : List (S26)) bt324.1 bt324.2.1 bt324.2.2.1 bt324.2.2.2.1 bt324.2.2.2.2.1 bt324.2.2.2.2.2.1 bt324.2.2.2.2.2.2.1 bt324.2.2.2.2.2.2.2 bt332.1 bt332.2.1 bt332.2.2.1 bt332.2.2.2.1 bt332.2.2.2.2.1 bt332.2.2.2.2.2.1 bt332.2.2.2.2.2.2.1 bt332.2.2.2.2.2.2.2.1)) else ((spec_l3Area.f bt324.1 bt324.2.1 bt324.2.2.2.2.1 bt324.2.2.2.2.2.1).bind fun bt342 => (some (([(⟨(⟨bt342.1, bt342.2.1, bt342.2.2.1, bt342.2.2.2.1⟩ : S24), (⟨bt342.2.2.2.2.1, bt342.2.2.2.2.2.1, bt342.2.2.2.2.2.2.1, bt342.2.2.2.2.2.2.2⟩ : S24)⟩ : S26)] : List (S26))))))))
def spec_Without.j1 : Nat → List (S26) → Int → Int → Bool → Bool → Int → Int → Bool → Bool → Int → Int → Bool → Bool → Int → Int → Bool → Bool → Option ((List (S26)))
 | 0, _, _, _, _, _, _, _, _, _, _, _, _, _, _, _, _, _ => none
 | k + 1, x7, x321000, x321001, x321002, x321003, x321004, x321005, x321006, x321007, x342000, x342001, x342002, x342003, x342004, x342005, x342006, x342007 => if x321004 > x342004 then ((spec_l3Area.f (wrap64 (x342004 + 1)) x321001 x321004 x321005).bind fun bt364 => (if x7.length < 2932031007402 then (spec_Without.j2 k (x7 ++ [(⟨(⟨bt364.1, bt364.2.1, bt364.2.2.1, bt364.2.2.2.1⟩ : S24), (⟨bt364.2.2.2.2.1, bt364.2.2.2.2.2.1, bt364.2.2.2.2.2.2.1, bt364.2.2.2.2.2.2.2⟩ : S24)⟩ : S26)]) x321000 x321001 x321002 x321003 x321004 x321005 x321006 x321007 x342000 x342001 x342002 x342003 x342004 x342005 x342006 x342007) else (none))) else (spec_Without.j2 k x7 x321000 x321001 x321002 x321003 x321004 x321005 x321006 x321007 x342000 x342001 x342002 x342003 x342004 x342005 x342006 x342007)
def spec_Without.j2 : Nat → List (S26) → Int → Int → Bool → Bool → Int → Int → Bool → Bool → Int → Int → Bool → Bool → Int → Int → Bool → Bool → Option ((List (S26)))
 | 0, _, _, _, _, _, _, _, _, _, _, _, _, _, _, _, _, _ => none
 | k + 1, x7, x321000, x321001, x321002, x321003, x321004, x321005, x321006, x321007, x342000, x342001, x342002, x342003, x342004, x342005, x342006, x342007 => if x321001 < x342001 then ((spec_l3Area.f x342000 x321001 x342004 (wrap64 (x342001 - 1))).bind fun bt375 => (if x7.length < 2932031007402 then ((some (x7 ++ [(⟨(⟨bt375.1, bt375.2.1, bt375.2.2.1, bt375.2.2.2.1⟩ : S24), (⟨bt375.2.2.2.2.1, bt375.2.2.2.2.2.1, bt375.2.2.2.2.2.2.1, bt375.2.2.2.2.2.2.2⟩ : S24)⟩ : S26)] : List (S26))).bind fun y383 => (if x321005 > x342005 then ((spec_l3Area.f x342000 (wrap64 (x342005 + 1)) x342004 x321005).bind fun bt386 => (if y383.length < 2932031007402 then (some (y383 ++ [(⟨(⟨bt386.1, bt386.2.1, bt386.2.2.1, bt386.2.2.2.1⟩ : S24), (⟨bt386.2.2.2.2.1, bt386.2.2.2.2.2.1, bt386.2.2.2.2.2.2.1, bt386.2.2.2.2.2.2.2⟩ : S24)⟩ : S26)])) else (none))) else (some y383))) else (none))) else (if x321005 > x342005 then ((spec_l3Area.f x342000 (wrap64 (x342005 + 1)) x342004 x321005).bind fun bt397 => (if x7.length < 2932031007402 then (some (x7 ++ [(⟨(⟨bt397.1, bt397.2.1, bt397.2.2.1, bt397.2.2.2.1⟩ : S24), (⟨bt397.2.2.2.2.1, bt397.2.2.2.2.2.1, bt397.2.2.2.2.2.2.1, bt397.2.2.2.2.2.2.2⟩ : S24)⟩ : S26)])) else (none))) else (some x7))
end

def spec_Without.f (k : Nat) (a0_0 : Int) (a0_1 : Int) (a0_2 : Bool) (a0_3 : Bool) (a0_4 : Int) (a0_5 : Int) (a0_6 : Bool) (a0_7 : Bool) (a1_0 : Int) (a1_1 : Int) (a1_2 : Bool) (a1_3 : Bool) (a1_4 : Int) (a1_5 : Int) (a1_6 : Bool) (a1_7 : Bool) : Option ((List (S26))) := (spec_GoodArea.f a0_0 a0_1 a0_2 a0_3 a0_4 a0_5 a0_6 a0_7).bind fun t322 => (if t322 = true then ((spec_GoodArea.f a1_0 a1_1 a1_2 a1_3 a1_4 a1_5 a1_6 a1_7).bind fun t323 => (spec_Without.j0 k (!t323) a0_0 a0_1 a0_2 a0_3 a0_4 a0_5 a0_6 a0_7 a1_0 a1_1 a1_2 a1_3 a1_4 a1_5 a1_6 a1_7)) else (spec_Without.j0 k true a0_0 a0_1 a0_2 a0_3 a0_4 a0_5 a0_6 a0_7 a1_0 a1_1 a1_2 a1_3 a1_4 a1_5 a1_6 a1_7))

end Go.Proofs.Ytjjignjjnnmajaa.PFnAreas
