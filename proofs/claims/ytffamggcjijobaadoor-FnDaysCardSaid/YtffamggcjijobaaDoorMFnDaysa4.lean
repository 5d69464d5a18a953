/- Functions of the program as Lean functions, and proofs that the Go code comes to their answers: for the law FnDays; made out of the print by a program of mine (compact.py). No conditions but each theorem's own. -/
import Derived.Test.YtffamggcjijobaaDoorMFnDaysa0
import Derived.Test.YtffamggcjijobaaDoorMFnDaysa1
import Derived.Test.YtffamggcjijobaaDoorMFnDaysa2
import Derived.Test.YtffamggcjijobaaDoorMFnDaysa3
namespace Go.Proofs.YtffamggcjijobaaDoor.PFnDays
open List (map_toArray map_cons map_nil length_drop length_take set_cons_zero set_cons_succ setIfInBounds_toArray)
open Go.RowKit Go.Proofs.YtffamggcjijobaaDoorW.PrintWords Go.Proofs.YtffamggcjijobaaDoorW.PrintLast Go.Proofs.YtffamggcjijobaaDoorW.PrintMore
attribute [local go_sem] max2_int min2_int max_two min_two max_three min_three max_four min_four   -- for this text's walks alone
set_option linter.unusedVariables false
set_option linter.unusedSimpArgs false

attribute [local go_sem high] eqA36
abbrev bt4_0 : Array Bool := #[false, false, false, false, false, false, false, false, false, false, false, false, false, false, false, false, false, false, false, false, false, false, false, false, false, false, false, false, false, false, false]
abbrev bt4_1 : Array Bool := #[true, false, false, false, false, false, false, false, false, false, false, false, false, false, false, false, false, false, false, false, false, false, false, false, false, false, false, false, false, false, false]
abbrev bt4_2 : Array Bool := #[true, true, false, false, false, false, false, false, false, false, false, false, false, false, false, false, false, false, false, false, false, false, false, false, false, false, false, false, false, false, false]
abbrev bt4_3 : Array Bool := #[true, true, true, false, false, false, false, false, false, false, false, false, false, false, false, false, false, false, false, false, false, false, false, false, false, false, false, false, false, false, false]
abbrev bt4_4 : Array Bool := #[true, true, true, true, false, false, false, false, false, false, false, false, false, false, false, false, false, false, false, false, false, false, false, false, false, false, false, false, false, false, false]
abbrev bt4_5 : Array Bool := #[true, true, true, true, true, false, false, false, false, false, false, false, false, false, false, false, false, false, false, false, false, false, false, false, false, false, false, false, false, false, false]
abbrev bt4_6 : Array Bool := #[true, true, true, true, true, true, false, false, false, false, false, false, false, false, false, false, false, false, false, false, false, false, false, false, false, false, false, false, false, false, false]
abbrev bt4_7 : Array Bool := #[true, true, true, true, true, true, true, false, false, false, false, false, false, false, false, false, false, false, false, false, false, false, false, false, false, false, false, false, false, false, false]
abbrev bt4_8 : Array Bool := #[true, true, true, true, true, true, true, true, false, false, false, false, false, false, false, false, false, false, false, false, false, false, false, false, false, false, false, false, false, false, false]
abbrev bt4_9 : Array Bool := #[true, true, true, true, true, true, true, true, true, false, false, false, false, false, false, false, false, false, false, false, false, false, false, false, false, false, false, false, false, false, false]
abbrev bt4_10 : Array Bool := #[true, true, true, true, true, true, true, true, true, true, false, false, false, false, false, false, false, false, false, false, false, false, false, false, false, false, false, false, false, false, false]
abbrev bt4_11 : Array Bool := #[true, true, true, true, true, true, true, true, true, true, true, false, false, false, false, false, false, false, false, false, false, false, false, false, false, false, false, false, false, false, false]
abbrev bt4_12 : Array Bool := #[true, true, true, true, true, true, true, true, true, true, true, true, false, false, false, false, false, false, false, false, false, false, false, false, false, false, false, false, false, false, false]
abbrev bt4_13 : Array Bool := #[true, true, true, true, true, true, true, true, true, true, true, true, true, false, false, false, false, false, false, false, false, false, false, false, false, false, false, false, false, false, false]
abbrev bt4_14 : Array Bool := #[true, true, true, true, true, true, true, true, true, true, true, true, true, true, false, false, false, false, false, false, false, false, false, false, false, false, false, false, false, false, false]
abbrev bt4_15 : Array Bool := #[true, true, true, true, true, true, true, true, true, true, true, true, true, true, true, false, false, false, false, false, false, false, false, false, false, false, false, false, false, false, false]
abbrev bt4_16 : Array Bool := #[true, true, true, true, true, true, true, true, true, true, true, true, true, true, true, true, false, false, false, false, false, false, false, false, false, false, false, false, false, false, false]
abbrev bt4_17 : Array Bool := #[true, true, true, true, true, true, true, true, true, true, true, true, true, true, true, true, true, false, false, false, false, false, false, false, false, false, false, false, false, false, false]
abbrev bt4_18 : Array Bool := #[true, true, true, true, true, true, true, true, true, true, true, true, true, true, true, true, true, true, false, false, false, false, false, false, false, false, false, false, false, false, false]
abbrev bt4_19 : Array Bool := #[true, true, true, true, true, true, true, true, true, true, true, true, true, true, true, true, true, true, true, false, false, false, false, false, false, false, false, false, false, false, false]
abbrev bt4_20 : Array Bool := #[true, true, true, true, true, true, true, true, true, true, true, true, true, true, true, true, true, true, true, true, false, false, false, false, false, false, false, false, false, false, false]
abbrev bt4_21 : Array Bool := #[true, true, true, true, true, true, true, true, true, true, true, true, true, true, true, true, true, true, true, true, true, false, false, false, false, false, false, false, false, false, false]
abbrev bt4_22 : Array Bool := #[true, true, true, true, true, true, true, true, true, true, true, true, true, true, true, true, true, true, true, true, true, true, false, false, false, false, false, false, false, false, false]
abbrev bt4_23 : Array Bool := #[true, true, true, true, true, true, true, true, true, true, true, true, true, true, true, true, true, true, true, true, true, true, true, false, false, false, false, false, false, false, false]
abbrev bt4_24 : Array Bool := #[true, true, true, true, true, true, true, true, true, true, true, true, true, true, true, true, true, true, true, true, true, true, true, true, false, false, false, false, false, false, false]
abbrev bt4_25 : Array Bool := #[true, true, true, true, true, true, true, true, true, true, true, true, true, true, true, true, true, true, true, true, true, true, true, true, true, false, false, false, false, false, false]
abbrev bt4_26 : Array Bool := #[true, true, true, true, true, true, true, true, true, true, true, true, true, true, true, true, true, true, true, true, true, true, true, true, true, true, false, false, false, false, false]
abbrev bt4_27 : Array Bool := #[true, true, true, true, true, true, true, true, true, true, true, true, true, true, true, true, true, true, true, true, true, true, true, true, true, true, true, false, false, false, false]
abbrev bt4_28 : Array Bool := #[true, true, true, true, true, true, true, true, true, true, true, true, true, true, true, true, true, true, true, true, true, true, true, true, true, true, true, true, false, false, false]
abbrev bt4_29 : Array Bool := #[true, true, true, true, true, true, true, true, true, true, true, true, true, true, true, true, true, true, true, true, true, true, true, true, true, true, true, true, true, false, false]
abbrev bt4_30 : Array Bool := #[true, true, true, true, true, true, true, true, true, true, true, true, true, true, true, true, true, true, true, true, true, true, true, true, true, true, true, true, true, true, false]
abbrev bt4_31 : Array Bool := #[true, true, true, true, true, true, true, true, true, true, true, true, true, true, true, true, true, true, true, true, true, true, true, true, true, true, true, true, true, true, true]
set_option maxHeartbeats 8000000 in
set_option maxRecDepth 100000 in
theorem impl_isDate.calls_p5 (a0 : Int) (a1_0 : Int) (a1_1 : Int) (a1_2 : Int) (r : Bool) (w : World) (hT : Tab w) (c3 : ¬ (a1_1 ≥ 1)) (H : (some false) = some r) :
  Calls Tryd.prog 60 #[.int .i64 a0, .agg #[.int .i64 a1_0, .int .i64 a1_1, .int .i64 a1_2]] w fun e w' => e = .returned (.bool r) ∧ Below w.heap.size w w' := by
 have hu36 := Tryd.underlying36
 have HB := Aside0.mk (Below.refl w.heap.size w)
 have c3b0 : decide (1 ≤ a1_1) = false := decide_eq_false c3
 clear c3
 obtain rfl := Option.some.inj H
 go_enter Tryd.func60, Tryd.ntmps60
 try go_wp2_with (first | ((with_reducible refine z22q (N := 3) rfl ?_); refine z20q ?hg (N := 3) ?hd (cs := #[.int .i64 a1_0, .int .i64 a1_1, .int .i64 a1_2]) (t := 36) ?hr ?_; (case hd => rfl); (case hg => rfl); (case hr => first | (go_simp; done) | (go_simp; rfl)); intro gb210 hg w17 hbox hb; have n0_ := Aside0.mk (z11q (by repeat (first | (with_reducible first | exact HB.out | apply z2q | apply z0q | apply z1q) | exact HB.out)) hb); have n1_ := Aside0.mk (hbox); have n2_ := Aside0.mk ((by rw [hg]; exact (z12q (by repeat (first | (with_reducible first | exact HB.out | apply z2q | apply z0q | apply z1q) | exact HB.out))) : w.heap.size ≤ gb210)); have n3_ := Aside0.mk ((by rw [hg]; exact (z12q (by repeat (first | (with_reducible first | exact HB.out | apply z2q | apply z0q | apply z1q) | exact HB.out))) : w.heap.size ≤ gb210)); clear HB; have HB := n0_; have BK210 := n1_; have GW210 := n2_; have GE210 := n3_; clear n0_ n1_ n2_ n3_; clear hb hbox hg))
 have n0_ := Aside0.mk (z6q BK210.out)
 have n1_ := Aside0.mk (z1q HB.out)
 clear BK210
 clear HB
 have BK210 := n0_
 have HB := n1_
 clear n0_ n1_
 refine start_ (n := 31) (S := fun w' => w'.cell? ⟨gb210, 0, none⟩ = some (.int .i64 a1_0) ∧ w'.cell? ⟨gb210, 1, none⟩ = some (.int .i64 a1_1) ∧ w'.cell? ⟨gb210, 2, none⟩ = some (.int .i64 a1_2)) (ds := []) bt4_0 (by kernel_rfl) rfl rfl ⟨(z7q BK210.out 0).trans rfl, (z7q BK210.out 1).trans rfl, (z7q BK210.out 2).trans rfl⟩ (fun hHeld => ?_); refine with_tabW impl_isDate.tab1 impl_isDate.bits1 (fun HT_ HW_ => ?_)
 generalize w17.drew = w18 at BK210 HB hHeld ⊢
 refine pure_ (i := 0) (N := some 5) (v := ?_) (a' := ?_) bt4_1 rfl rfl (z10q HT_.out (by kernel_rfl)) (fun _ _ _ h => h) (Or.inl ⟨by rfl, ?_⟩) ?_ ?_
 rotate_left
 ·intro w'
  go_simp
  with_reducible rfl
 rotate_left
 ·simp only [Act.put, setIfInBounds_toArray, set_cons_zero, set_cons_succ, i64_w, i32_w]
  rfl
 refine take_ (i := 1) (N := some 6) (v := ?_) (a' := ?_) bt4_2 rfl rfl (z23q HT_.out HW_.out (by kernel_rfl)) (fun _ _ _ h => h) (Or.inl ⟨by rfl, ?_⟩) hHeld ?_ ?_
 rotate_left
 ·rintro w' ⟨s0, s1, s2⟩
  go_simp
  with_reducible rfl
 rotate_left
 ·simp only [Act.put, setIfInBounds_toArray, set_cons_zero, set_cons_succ, i64_w, i32_w]
  rfl
 refine pure_ (i := 2) (N := some 7) (v := ?_) (a' := ?_) bt4_3 rfl rfl (z10q HT_.out (by kernel_rfl)) (fun _ _ _ h => h) (Or.inl ⟨by rfl, ?_⟩) ?_ ?_
 rotate_left
 ·intro w'
  go_simp
  with_reducible rfl
 rotate_left
 ·simp only [Act.put, setIfInBounds_toArray, set_cons_zero, set_cons_succ, i64_w, i32_w]
  rfl
 refine pure_ (i := 3) (N := some 8) (v := ?_) (a' := ?_) bt4_4 rfl rfl (z10q HT_.out (by kernel_rfl)) (fun _ _ _ h => h) (Or.inl ⟨by rfl, ?_⟩) ?_ ?_
 rotate_left
 ·intro w'
  go_simp
  with_reducible rfl
 rotate_left
 ·simp only [Act.put, setIfInBounds_toArray, set_cons_zero, set_cons_succ, i64_w, i32_w]
  rfl
 refine pure_ (i := 4) (N := some 9) (v := undef) (a' := ?_) bt4_5 rfl rfl (z10q HT_.out (by kernel_rfl)) (fun _ _ _ h => h) (Or.inr ⟨by rfl, rfl⟩) ?_ ?_
 rotate_left
 ·simp only [Act.put, setIfInBounds_toArray, set_cons_zero, set_cons_succ, i64_w, i32_w]
  rfl
 refine pure_ (i := 5) (N := some 10) (v := undef) (a' := ?_) bt4_6 rfl rfl (z10q HT_.out (by kernel_rfl)) (fun _ _ _ h => h) (Or.inr ⟨by rfl, rfl⟩) ?_ ?_
 rotate_left
 ·simp only [Act.put, setIfInBounds_toArray, set_cons_zero, set_cons_succ, i64_w, i32_w]
  rfl
 refine pure_ (i := 6) (N := some 11) (v := undef) (a' := ?_) bt4_7 rfl rfl (z10q HT_.out (by kernel_rfl)) (fun _ _ _ h => h) (Or.inr ⟨by rfl, rfl⟩) ?_ ?_
 rotate_left
 ·simp only [Act.put, setIfInBounds_toArray, set_cons_zero, set_cons_succ, i64_w, i32_w]
  rfl
 refine pure_ (i := 7) (N := some 12) (v := ?_) (a' := ?_) bt4_8 rfl rfl (z10q HT_.out (by kernel_rfl)) (fun _ _ _ h => h) (Or.inl ⟨by rfl, ?_⟩) ?_ ?_
 rotate_left
 ·intro w'
  go_simp
  with_reducible rfl
 rotate_left
 ·simp only [Act.put, setIfInBounds_toArray, set_cons_zero, set_cons_succ, i64_w, i32_w]
  rfl
 refine pure_ (i := 8) (N := some 13) (v := ?_) (a' := ?_) bt4_9 rfl rfl (z10q HT_.out (by kernel_rfl)) (fun _ _ _ h => h) (Or.inl ⟨by rfl, ?_⟩) ?_ ?_
 rotate_left
 ·intro w'
  go_simp
  with_reducible rfl
 rotate_left
 ·simp only [Act.put, setIfInBounds_toArray, set_cons_zero, set_cons_succ, i64_w, i32_w]
  rfl
 refine pure_ (i := 9) (N := some 14) (v := undef) (a' := ?_) bt4_10 rfl rfl (z10q HT_.out (by kernel_rfl)) (fun _ _ _ h => h) (Or.inr ⟨by rfl, rfl⟩) ?_ ?_
 rotate_left
 ·simp only [Act.put, setIfInBounds_toArray, set_cons_zero, set_cons_succ, i64_w, i32_w]
  rfl
 refine pure_ (i := 10) (N := some 15) (v := undef) (a' := ?_) bt4_11 rfl rfl (z10q HT_.out (by kernel_rfl)) (fun _ _ _ h => h) (Or.inr ⟨by rfl, rfl⟩) ?_ ?_
 rotate_left
 ·simp only [Act.put, setIfInBounds_toArray, set_cons_zero, set_cons_succ, i64_w, i32_w]
  rfl
 refine pure_ (i := 11) (N := some 16) (v := undef) (a' := ?_) bt4_12 rfl rfl (z10q HT_.out (by kernel_rfl)) (fun _ _ _ h => h) (Or.inr ⟨by rfl, rfl⟩) ?_ ?_
 rotate_left
 ·simp only [Act.put, setIfInBounds_toArray, set_cons_zero, set_cons_succ, i64_w, i32_w]
  rfl
 refine pure_ (i := 12) (N := some 17) (v := ?_) (a' := ?_) bt4_13 rfl rfl (z10q HT_.out (by kernel_rfl)) (fun _ _ _ h => h) (Or.inl ⟨by rfl, ?_⟩) ?_ ?_
 rotate_left
 ·intro w'
  go_simp
  with_reducible rfl
 rotate_left
 ·simp only [Act.put, setIfInBounds_toArray, set_cons_zero, set_cons_succ, i64_w, i32_w]
  rfl
 refine pure_ (i := 13) (N := some 18) (v := ?_) (a' := ?_) bt4_14 rfl rfl (z10q HT_.out (by kernel_rfl)) (fun _ _ _ h => h) (Or.inl ⟨by rfl, ?_⟩) ?_ ?_
 rotate_left
 ·intro w'
  go_simp
  with_reducible rfl
 rotate_left
 ·simp only [Act.put, setIfInBounds_toArray, set_cons_zero, set_cons_succ, i64_w, i32_w]
  rfl
 refine pure_ (i := 14) (N := some 19) (v := undef) (a' := ?_) bt4_15 rfl rfl (z10q HT_.out (by kernel_rfl)) (fun _ _ _ h => h) (Or.inr ⟨by rfl, rfl⟩) ?_ ?_
 rotate_left
 ·simp only [Act.put, setIfInBounds_toArray, set_cons_zero, set_cons_succ, i64_w, i32_w]
  rfl
 refine pure_ (i := 15) (N := some 20) (v := undef) (a' := ?_) bt4_16 rfl rfl (z10q HT_.out (by kernel_rfl)) (fun _ _ _ h => h) (Or.inr ⟨by rfl, rfl⟩) ?_ ?_
 rotate_left
 ·simp only [Act.put, setIfInBounds_toArray, set_cons_zero, set_cons_succ, i64_w, i32_w]
  rfl
 refine pure_ (i := 16) (N := some 21) (v := undef) (a' := ?_) bt4_17 rfl rfl (z10q HT_.out (by kernel_rfl)) (fun _ _ _ h => h) (Or.inr ⟨by rfl, rfl⟩) ?_ ?_
 rotate_left
 ·simp only [Act.put, setIfInBounds_toArray, set_cons_zero, set_cons_succ, i64_w, i32_w]
  rfl
 refine pure_ (i := 17) (N := some 22) (v := undef) (a' := ?_) bt4_18 rfl rfl (z10q HT_.out (by kernel_rfl)) (fun _ _ _ h => h) (Or.inr ⟨by rfl, rfl⟩) ?_ ?_
 rotate_left
 ·simp only [Act.put, setIfInBounds_toArray, set_cons_zero, set_cons_succ, i64_w, i32_w]
  rfl
 refine pure_ (i := 18) (N := some 23) (v := ?_) (a' := ?_) bt4_19 rfl rfl (z10q HT_.out (by kernel_rfl)) (fun _ _ _ h => h) (Or.inl ⟨by rfl, ?_⟩) ?_ ?_
 rotate_left
 ·intro w'
  go_simp
  with_reducible rfl
 rotate_left
 ·simp only [Act.put, setIfInBounds_toArray, set_cons_zero, set_cons_succ, i64_w, i32_w]
  rfl
 refine pure_ (i := 19) (N := some 24) (v := ?_) (a' := ?_) bt4_20 rfl rfl (z10q HT_.out (by kernel_rfl)) (fun _ _ _ h => h) (Or.inl ⟨by rfl, ?_⟩) ?_ ?_
 rotate_left
 ·intro w'
  go_simp
  with_reducible rfl
 rotate_left
 ·simp only [Act.put, setIfInBounds_toArray, set_cons_zero, set_cons_succ, i64_w, i32_w]
  rfl
 refine pure_ (i := 20) (N := some 25) (v := undef) (a' := ?_) bt4_21 rfl rfl (z10q HT_.out (by kernel_rfl)) (fun _ _ _ h => h) (Or.inr ⟨by rfl, rfl⟩) ?_ ?_
 rotate_left
 ·simp only [Act.put, setIfInBounds_toArray, set_cons_zero, set_cons_succ, i64_w, i32_w]
  rfl
 refine pure_ (i := 21) (N := some 26) (v := undef) (a' := ?_) bt4_22 rfl rfl (z10q HT_.out (by kernel_rfl)) (fun _ _ _ h => h) (Or.inr ⟨by rfl, rfl⟩) ?_ ?_
 rotate_left
 ·simp only [Act.put, setIfInBounds_toArray, set_cons_zero, set_cons_succ, i64_w, i32_w]
  rfl
 refine pure_ (i := 22) (N := some 27) (v := undef) (a' := ?_) bt4_23 rfl rfl (z10q HT_.out (by kernel_rfl)) (fun _ _ _ h => h) (Or.inr ⟨by rfl, rfl⟩) ?_ ?_
 rotate_left
 ·simp only [Act.put, setIfInBounds_toArray, set_cons_zero, set_cons_succ, i64_w, i32_w]
  rfl
 refine pure_ (i := 23) (N := some 28) (v := undef) (a' := ?_) bt4_24 rfl rfl (z10q HT_.out (by kernel_rfl)) (fun _ _ _ h => h) (Or.inr ⟨by rfl, rfl⟩) ?_ ?_
 rotate_left
 ·simp only [Act.put, setIfInBounds_toArray, set_cons_zero, set_cons_succ, i64_w, i32_w]
  rfl
 refine pure_ (i := 24) (N := some 29) (v := undef) (a' := ?_) bt4_25 rfl rfl (z10q HT_.out (by kernel_rfl)) (fun _ _ _ h => h) (Or.inr ⟨by rfl, rfl⟩) ?_ ?_
 rotate_left
 ·simp only [Act.put, setIfInBounds_toArray, set_cons_zero, set_cons_succ, i64_w, i32_w]
  rfl
 refine pure_ (i := 25) (N := some 30) (v := undef) (a' := ?_) bt4_26 rfl rfl (z10q HT_.out (by kernel_rfl)) (fun _ _ _ h => h) (Or.inr ⟨by rfl, rfl⟩) ?_ ?_
 rotate_left
 ·simp only [Act.put, setIfInBounds_toArray, set_cons_zero, set_cons_succ, i64_w, i32_w]
  rfl
 refine pure_ (i := 26) (N := some 31) (v := undef) (a' := ?_) bt4_27 rfl rfl (z10q HT_.out (by kernel_rfl)) (fun _ _ _ h => h) (Or.inr ⟨by rfl, rfl⟩) ?_ ?_
 rotate_left
 ·simp only [Act.put, setIfInBounds_toArray, set_cons_zero, set_cons_succ, i64_w, i32_w]
  rfl
 refine pure_ (i := 27) (N := some 32) (v := undef) (a' := ?_) bt4_28 rfl rfl (z10q HT_.out (by kernel_rfl)) (fun _ _ _ h => h) (Or.inr ⟨by rfl, rfl⟩) ?_ ?_
 rotate_left
 ·simp only [Act.put, setIfInBounds_toArray, set_cons_zero, set_cons_succ, i64_w, i32_w]
  rfl
 refine pure_ (i := 28) (N := some 33) (v := undef) (a' := ?_) bt4_29 rfl rfl (z10q HT_.out (by kernel_rfl)) (fun _ _ _ h => h) (Or.inr ⟨by rfl, rfl⟩) ?_ ?_
 rotate_left
 ·simp only [Act.put, setIfInBounds_toArray, set_cons_zero, set_cons_succ, i64_w, i32_w]
  rfl
 refine pure_ (i := 29) (N := some 34) (v := ?_) (a' := ?_) bt4_30 rfl rfl (z10q HT_.out (by kernel_rfl)) (fun _ _ _ h => h) (Or.inl ⟨by rfl, ?_⟩) ?_ ?_
 rotate_left
 ·intro w'
  go_simp
  with_reducible rfl
 rotate_left
 ·simp only [Act.put, setIfInBounds_toArray, set_cons_zero, set_cons_succ, i64_w, i32_w]
  rfl
 refine pure_ (i := 30) (N := some 4) (v := ?_) (a' := ?_) bt4_31 rfl rfl (z10q HT_.out (by kernel_rfl)) (fun _ _ _ h => h) (Or.inl ⟨by rfl, ?_⟩) ?_ ?_
 rotate_left
 ·intro w'
  go_simp
  with_reducible rfl
 rotate_left
 ·simp only [Act.put, setIfInBounds_toArray, set_cons_zero, set_cons_succ, i64_w, i32_w]
  rfl
 refine done_ (done_of HT_.out (by kernel_rfl)) ?_
 try go_wp2
 go_ret
 exact ⟨by first | rfl | (simp [errW_none, errW_some] <;> rfl) | (simp [*, errW_none, errW_some] <;> rfl), by repeat (first | (with_reducible first | exact HB.out | apply z2q | apply z0q | apply z1q | refine z3q ?_ GE210.out) | exact HB.out)⟩

set_option maxHeartbeats 8000000 in
set_option maxRecDepth 100000 in
theorem impl_isDate.calls (a0 : Int) (a1_0 : Int) (a1_1 : Int) (a1_2 : Int) (r : Bool) (w : World) (hT : Tab w) (h : impl_isDate.f a0 a1_0 a1_1 a1_2 = some r) :
  Calls Tryd.prog 60 #[.int .i64 a0, .agg #[.int .i64 a1_0, .int .i64 a1_1, .int .i64 a1_2]] w fun e w' => e = .returned (.bool r) ∧ Below w.heap.size w w' := by
 have H : (if a1_1 ≥ 1 then (if a1_1 ≤ 12 then (if a1_2 ≥ 1 then ((impl_goodYear.f a0 a1_0).bind fun t211 => (if t211 = true then ((impl_monthDays.f a0 a1_0 a1_1).bind fun t212 => (some (decide (a1_2 ≤ t212)))) else (some false))) else (some false)) else (some false)) else (some false)) = some r := h
 by_cases c3 : a1_1 ≥ 1
 ·rw [if_pos c3] at H
  by_cases c4 : a1_1 ≤ 12
  ·rw [if_pos c4] at H
   by_cases c5 : a1_2 ≥ 1
   ·rw [if_pos c5] at H
    replace H := Option.bind_eq_some_iff.mp H
    obtain ⟨t211, A60, H⟩ := H
    replace H : (if t211 = true then ((impl_monthDays.f a0 a1_0 a1_1).bind fun t212 => (some (decide (a1_2 ≤ t212)))) else (some false)) = some r := H
    have A6 := Aside0.mk A60
    clear A60
    by_cases c7 : t211 = true
    ·exact impl_isDate.calls_p1 a0 a1_0 a1_1 a1_2 r w hT t211 A6 c3 c4 c5 c7 H
    ·exact impl_isDate.calls_p2 a0 a1_0 a1_1 a1_2 r w hT t211 A6 c3 c4 c5 c7 H
   ·rw [if_neg c5] at H
    exact impl_isDate.calls_p3 a0 a1_0 a1_1 a1_2 r w hT c3 c4 c5 H
  ·rw [if_neg c4] at H
   exact impl_isDate.calls_p4 a0 a1_0 a1_1 a1_2 r w hT c3 c4 H
 ·rw [if_neg c3] at H
  exact impl_isDate.calls_p5 a0 a1_0 a1_1 a1_2 r w hT c3 H

/-! ### impl_DayOf: function 21 -/

def impl_DayOf.f (k : Nat) (a0 : Int) (a1_0 : Int) (a1_1 : Int) (a1_2 : Int) : Option (Int × Bool) := (impl_isDate.f a0 a1_0 a1_1 a1_2).bind fun t214 => (if t214 = true then ((impl_dayCount.f k a0 a1_0 a1_1 a1_2).bind fun t215 => ((impl_baseDay.f k a0).bind fun t216 => ((impl_isDay.f (wrap64 (t215 - t216))).bind fun t217 => (if t217 = true then (some (wrap64 (t215 - t216), true)) else (some (0, false)))))) else (some (0, false)))

set_option maxHeartbeats 8000000 in
set_option maxRecDepth 100000 in
theorem impl_DayOf.calls (k : Nat) (a0 : Int) (a1_0 : Int) (a1_1 : Int) (a1_2 : Int) (r1 : Int) (r2 : Bool) (w : World) (hT : Tab w) (h : impl_DayOf.f k a0 a1_0 a1_1 a1_2 = some (r1, r2)) :
  Calls Tryd.prog 21 #[.int .i64 a0, .agg #[.int .i64 a1_0, .int .i64 a1_1, .int .i64 a1_2]] w fun e w' => e = .returned (.tuple #[.int .i64 r1, .bool r2]) ∧ Below w.heap.size w w' := by
 have hu36 := Tryd.underlying36
 have HB := Aside0.mk (Below.refl w.heap.size w)
 have H : ((impl_isDate.f a0 a1_0 a1_1 a1_2).bind fun t214 => (if t214 = true then ((impl_dayCount.f k a0 a1_0 a1_1 a1_2).bind fun t215 => ((impl_baseDay.f k a0).bind fun t216 => ((impl_isDay.f (wrap64 (t215 - t216))).bind fun t217 => (if t217 = true then (some (wrap64 (t215 - t216), true)) else (some (0, false)))))) else (some (0, false)))) = some (r1, r2) := h
 clear h
 replace H := Option.bind_eq_some_iff.mp H
 obtain ⟨t214, A30, H⟩ := H
 replace H : (if t214 = true then ((impl_dayCount.f k a0 a1_0 a1_1 a1_2).bind fun t215 => ((impl_baseDay.f k a0).bind fun t216 => ((impl_isDay.f (wrap64 (t215 - t216))).bind fun t217 => (if t217 = true then (some (wrap64 (t215 - t216), true)) else (some (0, false)))))) else (some (0, false))) = some (r1, r2) := H
 have A3 := Aside0.mk A30
 clear A30
 by_cases c4 : t214 = true
 ·subst c4
  have H1 : ((impl_dayCount.f k a0 a1_0 a1_1 a1_2).bind fun t215 => ((impl_baseDay.f k a0).bind fun t216 => ((impl_isDay.f (wrap64 (t215 - t216))).bind fun t217 => (if t217 = true then (some (wrap64 (t215 - t216), true)) else (some (0, false)))))) = some (r1, r2) := by rw [if_pos rfl] at H; exact H
  clear H
  have H := H1
  clear H1
  replace H := Option.bind_eq_some_iff.mp H
  obtain ⟨t215, A50, H⟩ := H
  replace H : ((impl_baseDay.f k a0).bind fun t216 => ((impl_isDay.f (wrap64 (t215 - t216))).bind fun t217 => (if t217 = true then (some (wrap64 (t215 - t216), true)) else (some (0, false))))) = some (r1, r2) := H
  have A5 := Aside0.mk A50
  clear A50
  replace H := Option.bind_eq_some_iff.mp H
  obtain ⟨t216, A60, H⟩ := H
  replace H : ((impl_isDay.f (wrap64 (t215 - t216))).bind fun t217 => (if t217 = true then (some (wrap64 (t215 - t216), true)) else (some (0, false)))) = some (r1, r2) := H
  have A6 := Aside0.mk A60
  clear A60
  replace H := Option.bind_eq_some_iff.mp H
  obtain ⟨t217, A70, H⟩ := H
  replace H : (if t217 = true then (some (wrap64 (t215 - t216), true)) else (some (0, false))) = some (r1, r2) := H
  have A7 := Aside0.mk A70
  clear A70
  by_cases c8 : t217 = true
  ·subst c8
   have H1 : (some (wrap64 (t215 - t216), true)) = some (r1, r2) := by rw [if_pos rfl] at H; exact H
   clear H
   have H := H1
   clear H1
   simp only [Option.some.injEq, Prod.mk.injEq] at H
   obtain ⟨rfl, rfl⟩ := H
   go_enter Tryd.func21, Tryd.ntmps21
   go_wp2_with (first | ((with_reducible refine z22q (N := 3) rfl ?_); refine z20q ?hg (N := 3) ?hd (cs := #[.int .i64 a1_0, .int .i64 a1_1, .int .i64 a1_2]) (t := 36) ?hr ?_; (case hd => rfl); (case hg => rfl); (case hr => first | (go_simp; done) | (go_simp; rfl)); intro gb213 hg w9 hbox hb; have n0_ := Aside0.mk (z11q (by repeat (first | (with_reducible first | exact HB.out | apply z2q | apply z0q | apply z1q) | exact HB.out)) hb); have n1_ := Aside0.mk (hbox); have n2_ := Aside0.mk ((by rw [hg]; exact (z12q (by repeat (first | (with_reducible first | exact HB.out | apply z2q | apply z0q | apply z1q) | exact HB.out))) : w.heap.size ≤ gb213)); have n3_ := Aside0.mk ((by rw [hg]; exact (z12q (by repeat (first | (with_reducible first | exact HB.out | apply z2q | apply z0q | apply z1q) | exact HB.out))) : w.heap.size ≤ gb213)); clear HB; have HB := n0_; have BK213 := n1_; have GW213 := n2_; have GE213 := n3_; clear n0_ n1_ n2_ n3_; clear hb hbox hg; have hcz10_0 : w9.cell? ⟨gb213, 0, none⟩ = some (.int .i64 a1_0) := (z7q BK213.out 0).trans rfl; have hcz10_1 : w9.cell? ⟨gb213, 1, none⟩ = some (.int .i64 a1_1) := (z7q BK213.out 1).trans rfl; have hcz10_2 : w9.cell? ⟨gb213, 2, none⟩ = some (.int .i64 a1_2) := (z7q BK213.out 2).trans rfl; have hfz10_0 := z8q BK213.out 0; have hfz10_1 := z8q BK213.out 1; have hfz10_2 := z8q BK213.out 2) | ((with_reducible refine z9q (f := 60) rfl ?_); refine z17q (some 9) rfl rfl Tryd.func60 (by kernel_rfl) rfl #[.int .i64 a0, .agg #[.int .i64 a1_0, .int .i64 a1_1, .int .i64 a1_2]] rfl (by (try simp only [map_toArray, map_cons, map_nil]); first | done | rfl | (simp only [length_drop, length_take]; rfl)) ?_; (with_reducible refine (impl_isDate.calls a0 a1_0 a1_1 a1_2 true _ (hT.below (by repeat (first | exact HB.out | exact Below.refl _ _ | apply z2q | apply z0q | apply z1q | refine z3q ?_ GE213.out))) A3.out).mono ?_); rintro e w11 ⟨rfl, hb⟩; refine ⟨_, rfl, ?_⟩; have n0_ := Aside0.mk (z13q (g := gb213) (o := .cells #[.int .i64 a1_0, .int .i64 a1_1, .int .i64 a1_2] 36 (0, 0)) (by (with_reducible repeat (first | refine z4q ?_ _ | refine z6q ?_ | refine z5q ?_ _)); exact BK213.out) hb); have n1_ := Aside0.mk (z11q (by repeat (first | (with_reducible first | exact HB.out | apply z2q | apply z0q | apply z1q | refine z3q ?_ GE213.out) | exact HB.out)) hb); clear BK213; clear HB; have BK213 := n0_; have HB := n1_; clear n0_ n1_; (try clear hb); (try clear hb2); (try clear hk); (try clear hi); have hcz12_0 : w11.cell? ⟨gb213, 0, none⟩ = some (.int .i64 a1_0) := (z7q BK213.out 0).trans rfl; have hcz12_1 : w11.cell? ⟨gb213, 1, none⟩ = some (.int .i64 a1_1) := (z7q BK213.out 1).trans rfl; have hcz12_2 : w11.cell? ⟨gb213, 2, none⟩ = some (.int .i64 a1_2) := (z7q BK213.out 2).trans rfl; have hfz12_0 := z8q BK213.out 0; have hfz12_1 := z8q BK213.out 1; have hfz12_2 := z8q BK213.out 2) | ((with_reducible refine z9q (f := 61) rfl ?_); refine z17q (some 13) rfl rfl Tryd.func61 (by kernel_rfl) rfl #[.int .i64 a0, .agg #[.int .i64 a1_0, .int .i64 a1_1, .int .i64 a1_2]] rfl (by (try simp only [map_toArray, map_cons, map_nil]); first | done | rfl | (simp only [length_drop, length_take]; rfl)) ?_; (with_reducible refine (impl_dayCount.calls k a0 a1_0 a1_1 a1_2 t215 _ (hT.below (by repeat (first | exact HB.out | exact Below.refl _ _ | apply z2q | apply z0q | apply z1q | refine z3q ?_ GE213.out))) A5.out).mono ?_); rintro e w13 ⟨rfl, hb⟩; refine ⟨_, rfl, ?_⟩; have n0_ := Aside0.mk (z13q (g := gb213) (o := .cells #[.int .i64 a1_0, .int .i64 a1_1, .int .i64 a1_2] 36 (0, 0)) (by (with_reducible repeat (first | refine z4q ?_ _ | refine z6q ?_ | refine z5q ?_ _)); exact BK213.out) hb); have n1_ := Aside0.mk (z11q (by repeat (first | (with_reducible first | exact HB.out | apply z2q | apply z0q | apply z1q | refine z3q ?_ GE213.out) | exact HB.out)) hb); clear BK213; clear HB; have BK213 := n0_; have HB := n1_; clear n0_ n1_; (try clear hb); (try clear hb2); (try clear hk); (try clear hi)) | ((with_reducible refine z9q (f := 62) rfl ?_); refine z17q (some 15) rfl rfl Tryd.func62 (by kernel_rfl) rfl #[.int .i64 a0] rfl (by (try simp only [map_toArray, map_cons, map_nil]); first | done | rfl | (simp only [length_drop, length_take]; rfl)) ?_; (with_reducible refine (impl_baseDay.calls k a0 t216 _ (hT.below (by repeat (first | exact HB.out | exact Below.refl _ _ | apply z2q | apply z0q | apply z1q | refine z3q ?_ GE213.out))) A6.out).mono ?_); rintro e w14 ⟨rfl, hb⟩; refine ⟨_, rfl, ?_⟩; have n0_ := Aside0.mk (z13q (g := gb213) (o := .cells #[.int .i64 a1_0, .int .i64 a1_1, .int .i64 a1_2] 36 (0, 0)) (by (with_reducible repeat (first | refine z4q ?_ _ | refine z6q ?_ | refine z5q ?_ _)); exact BK213.out) hb); have n1_ := Aside0.mk (z11q (by repeat (first | (with_reducible first | exact HB.out | apply z2q | apply z0q | apply z1q | refine z3q ?_ GE213.out) | exact HB.out)) hb); clear BK213; clear HB; have BK213 := n0_; have HB := n1_; clear n0_ n1_; (try clear hb); (try clear hb2); (try clear hk); (try clear hi)) | ((with_reducible refine z9q (f := 53) rfl ?_); refine z17q (some 18) rfl rfl Tryd.func53 (by kernel_rfl) rfl #[.int .i64 (wrap64 (t215 - t216))] rfl (by (try simp only [map_toArray, map_cons, map_nil]); first | done | rfl | (simp only [length_drop, length_take]; rfl)) ?_; (with_reducible refine (impl_isDay.calls (wrap64 (t215 - t216)) true _ A7.out).mono ?_); rintro e w' ⟨rfl, ⟨nd, rfl⟩⟩; refine ⟨_, rfl, ?_⟩))
   go_ret2
   exact ⟨by first | rfl | (simp [errW_none, errW_some] <;> rfl) | (simp [*, errW_none, errW_some] <;> rfl), by repeat (first | (with_reducible first | exact HB.out | apply z2q | apply z0q | apply z1q | refine z3q ?_ GE213.out) | exact HB.out)⟩
  ·replace c8 := Bool.eq_false_iff.mpr c8
   subst c8
   have H1 : (some (0, false)) = some (r1, r2) := by rw [if_neg (show ¬ (false = true) by decide)] at H; exact H
   clear H
   have H := H1
   clear H1
   simp only [Option.some.injEq, Prod.mk.injEq] at H
   obtain ⟨rfl, rfl⟩ := H
   go_enter Tryd.func21, Tryd.ntmps21
   go_wp2_with (first | ((with_reducible refine z22q (N := 3) rfl ?_); refine z20q ?hg (N := 3) ?hd (cs := #[.int .i64 a1_0, .int .i64 a1_1, .int .i64 a1_2]) (t := 36) ?hr ?_; (case hd => rfl); (case hg => rfl); (case hr => first | (go_simp; done) | (go_simp; rfl)); intro gb213 hg w15 hbox hb; have n0_ := Aside0.mk (z11q (by repeat (first | (with_reducible first | exact HB.out | apply z2q | apply z0q | apply z1q) | exact HB.out)) hb); have n1_ := Aside0.mk (hbox); have n2_ := Aside0.mk ((by rw [hg]; exact (z12q (by repeat (first | (with_reducible first | exact HB.out | apply z2q | apply z0q | apply z1q) | exact HB.out))) : w.heap.size ≤ gb213)); have n3_ := Aside0.mk ((by rw [hg]; exact (z12q (by repeat (first | (with_reducible first | exact HB.out | apply z2q | apply z0q | apply z1q) | exact HB.out))) : w.heap.size ≤ gb213)); clear HB; have HB := n0_; have BK213 := n1_; have GW213 := n2_; have GE213 := n3_; clear n0_ n1_ n2_ n3_; clear hb hbox hg; have hcz16_0 : w15.cell? ⟨gb213, 0, none⟩ = some (.int .i64 a1_0) := (z7q BK213.out 0).trans rfl; have hcz16_1 : w15.cell? ⟨gb213, 1, none⟩ = some (.int .i64 a1_1) := (z7q BK213.out 1).trans rfl; have hcz16_2 : w15.cell? ⟨gb213, 2, none⟩ = some (.int .i64 a1_2) := (z7q BK213.out 2).trans rfl; have hfz16_0 := z8q BK213.out 0; have hfz16_1 := z8q BK213.out 1; have hfz16_2 := z8q BK213.out 2) | ((with_reducible refine z9q (f := 60) rfl ?_); refine z17q (some 9) rfl rfl Tryd.func60 (by kernel_rfl) rfl #[.int .i64 a0, .agg #[.int .i64 a1_0, .int .i64 a1_1, .int .i64 a1_2]] rfl (by (try simp only [map_toArray, map_cons, map_nil]); first | done | rfl | (simp only [length_drop, length_take]; rfl)) ?_; (with_reducible refine (impl_isDate.calls a0 a1_0 a1_1 a1_2 true _ (hT.below (by repeat (first | exact HB.out | exact Below.refl _ _ | apply z2q | apply z0q | apply z1q | refine z3q ?_ GE213.out))) A3.out).mono ?_); rintro e w17 ⟨rfl, hb⟩; refine ⟨_, rfl, ?_⟩; have n0_ := Aside0.mk (z13q (g := gb213) (o := .cells #[.int .i64 a1_0, .int .i64 a1_1, .int .i64 a1_2] 36 (0, 0)) (by (with_reducible repeat (first | refine z4q ?_ _ | refine z6q ?_ | refine z5q ?_ _)); exact BK213.out) hb); have n1_ := Aside0.mk (z11q (by repeat (first | (with_reducible first | exact HB.out | apply z2q | apply z0q | apply z1q | refine z3q ?_ GE213.out) | exact HB.out)) hb); clear BK213; clear HB; have BK213 := n0_; have HB := n1_; clear n0_ n1_; (try clear hb); (try clear hb2); (try clear hk); (try clear hi); have hcz18_0 : w17.cell? ⟨gb213, 0, none⟩ = some (.int .i64 a1_0) := (z7q BK213.out 0).trans rfl; have hcz18_1 : w17.cell? ⟨gb213, 1, none⟩ = some (.int .i64 a1_1) := (z7q BK213.out 1).trans rfl; have hcz18_2 : w17.cell? ⟨gb213, 2, none⟩ = some (.int .i64 a1_2) := (z7q BK213.out 2).trans rfl; have hfz18_0 := z8q BK213.out 0; have hfz18_1 := z8q BK213.out 1; have hfz18_2 := z8q BK213.out 2) | ((with_reducible refine z9q (f := 61) rfl ?_); refine z17q (some 13) rfl rfl Tryd.func61 (by kernel_rfl) rfl #[.int .i64 a0, .agg #[.int .i64 a1_0, .int .i64 a1_1, .int .i64 a1_2]] rfl (by (try simp only [map_toArray, map_cons, map_nil]); first | done | rfl | (simp only [length_drop, length_take]; rfl)) ?_; (with_reducible refine (impl_dayCount.calls k a0 a1_0 a1_1 a1_2 t215 _ (hT.below (by repeat (first | exact HB.out | exact Below.refl _ _ | apply z2q | apply z0q | apply z1q | refine z3q ?_ GE213.out))) A5.out).mono ?_); rintro e w19 ⟨rfl, hb⟩; refine ⟨_, rfl, ?_⟩; have n0_ := Aside0.mk (z13q (g := gb213) (o := .cells #[.int .i64 a1_0, .int .i64 a1_1, .int .i64 a1_2] 36 (0, 0)) (by (with_reducible repeat (first | refine z4q ?_ _ | refine z6q ?_ | refine z5q ?_ _)); exact BK213.out) hb); have n1_ := Aside0.mk (z11q (by repeat (first | (with_reducible first | exact HB.out | apply z2q | apply z0q | apply z1q | refine z3q ?_ GE213.out) | exact HB.out)) hb); clear BK213; clear HB; have BK213 := n0_; have HB := n1_; clear n0_ n1_; (try clear hb); (try clear hb2); (try clear hk); (try clear hi)) | ((with_reducible refine z9q (f := 62) rfl ?_); refine z17q (some 15) rfl rfl Tryd.func62 (by kernel_rfl) rfl #[.int .i64 a0] rfl (by (try simp only [map_toArray, map_cons, map_nil]); first | done | rfl | (simp only [length_drop, length_take]; rfl)) ?_; (with_reducible refine (impl_baseDay.calls k a0 t216 _ (hT.below (by repeat (first | exact HB.out | exact Below.refl _ _ | apply z2q | apply z0q | apply z1q | refine z3q ?_ GE213.out))) A6.out).mono ?_); rintro e w20 ⟨rfl, hb⟩; refine ⟨_, rfl, ?_⟩; have n0_ := Aside0.mk (z13q (g := gb213) (o := .cells #[.int .i64 a1_0, .int .i64 a1_1, .int .i64 a1_2] 36 (0, 0)) (by (with_reducible repeat (first | refine z4q ?_ _ | refine z6q ?_ | refine z5q ?_ _)); exact BK213.out) hb); have n1_ := Aside0.mk (z11q (by repeat (first | (with_reducible first | exact HB.out | apply z2q | apply z0q | apply z1q | refine z3q ?_ GE213.out) | exact HB.out)) hb); clear BK213; clear HB; have BK213 := n0_; have HB := n1_; clear n0_ n1_; (try clear hb); (try clear hb2); (try clear hk); (try clear hi)) | ((with_reducible refine z9q (f := 53) rfl ?_); refine z17q (some 18) rfl rfl Tryd.func53 (by kernel_rfl) rfl #[.int .i64 (wrap64 (t215 - t216))] rfl (by (try simp only [map_toArray, map_cons, map_nil]); first | done | rfl | (simp only [length_drop, length_take]; rfl)) ?_; (with_reducible refine (impl_isDay.calls (wrap64 (t215 - t216)) false _ A7.out).mono ?_); rintro e w' ⟨rfl, ⟨nd, rfl⟩⟩; refine ⟨_, rfl, ?_⟩))
   go_ret2
   exact ⟨by first | rfl | (simp [errW_none, errW_some] <;> rfl) | (simp [*, errW_none, errW_some] <;> rfl), by repeat (first | (with_reducible first | exact HB.out | apply z2q | apply z0q | apply z1q | refine z3q ?_ GE213.out) | exact HB.out)⟩
 ·replace c4 := Bool.eq_false_iff.mpr c4
  subst c4
  have H1 : (some (0, false)) = some (r1, r2) := by rw [if_neg (show ¬ (false = true) by decide)] at H; exact H
  clear H
  have H := H1
  clear H1
  simp only [Option.some.injEq, Prod.mk.injEq] at H
  obtain ⟨rfl, rfl⟩ := H
  go_enter Tryd.func21, Tryd.ntmps21
  go_wp2_with (first | ((with_reducible refine z22q (N := 3) rfl ?_); refine z20q ?hg (N := 3) ?hd (cs := #[.int .i64 a1_0, .int .i64 a1_1, .int .i64 a1_2]) (t := 36) ?hr ?_; (case hd => rfl); (case hg => rfl); (case hr => first | (go_simp; done) | (go_simp; rfl)); intro gb213 hg w21 hbox hb; have n0_ := Aside0.mk (z11q (by repeat (first | (with_reducible first | exact HB.out | apply z2q | apply z0q | apply z1q) | exact HB.out)) hb); have n1_ := Aside0.mk (hbox); have n2_ := Aside0.mk ((by rw [hg]; exact (z12q (by repeat (first | (with_reducible first | exact HB.out | apply z2q | apply z0q | apply z1q) | exact HB.out))) : w.heap.size ≤ gb213)); have n3_ := Aside0.mk ((by rw [hg]; exact (z12q (by repeat (first | (with_reducible first | exact HB.out | apply z2q | apply z0q | apply z1q) | exact HB.out))) : w.heap.size ≤ gb213)); clear HB; have HB := n0_; have BK213 := n1_; have GW213 := n2_; have GE213 := n3_; clear n0_ n1_ n2_ n3_; clear hb hbox hg; have hcz22_0 : w21.cell? ⟨gb213, 0, none⟩ = some (.int .i64 a1_0) := (z7q BK213.out 0).trans rfl; have hcz22_1 : w21.cell? ⟨gb213, 1, none⟩ = some (.int .i64 a1_1) := (z7q BK213.out 1).trans rfl; have hcz22_2 : w21.cell? ⟨gb213, 2, none⟩ = some (.int .i64 a1_2) := (z7q BK213.out 2).trans rfl; have hfz22_0 := z8q BK213.out 0; have hfz22_1 := z8q BK213.out 1; have hfz22_2 := z8q BK213.out 2) | ((with_reducible refine z9q (f := 60) rfl ?_); refine z17q (some 9) rfl rfl Tryd.func60 (by kernel_rfl) rfl #[.int .i64 a0, .agg #[.int .i64 a1_0, .int .i64 a1_1, .int .i64 a1_2]] rfl (by (try simp only [map_toArray, map_cons, map_nil]); first | done | rfl | (simp only [length_drop, length_take]; rfl)) ?_; (with_reducible refine (impl_isDate.calls a0 a1_0 a1_1 a1_2 false _ (hT.below (by repeat (first | exact HB.out | exact Below.refl _ _ | apply z2q | apply z0q | apply z1q | refine z3q ?_ GE213.out))) A3.out).mono ?_); rintro e w23 ⟨rfl, hb⟩; refine ⟨_, rfl, ?_⟩; have n0_ := Aside0.mk (z13q (g := gb213) (o := .cells #[.int .i64 a1_0, .int .i64 a1_1, .int .i64 a1_2] 36 (0, 0)) (by (with_reducible repeat (first | refine z4q ?_ _ | refine z6q ?_ | refine z5q ?_ _)); exact BK213.out) hb); have n1_ := Aside0.mk (z11q (by repeat (first | (with_reducible first | exact HB.out | apply z2q | apply z0q | apply z1q | refine z3q ?_ GE213.out) | exact HB.out)) hb); clear BK213; clear HB; have BK213 := n0_; have HB := n1_; clear n0_ n1_; (try clear hb); (try clear hb2); (try clear hk); (try clear hi)))
  go_ret2
  exact ⟨by first | rfl | (simp [errW_none, errW_some] <;> rfl) | (simp [*, errW_none, errW_some] <;> rfl), by repeat (first | (with_reducible first | exact HB.out | apply z2q | apply z0q | apply z1q | refine z3q ?_ GE213.out) | exact HB.out)⟩



/-! ### impl_MonthDays: function 22 -/

def impl_MonthDays.f (a0 : Int) (a1 : Int) (a2 : Int) : Option (Int) := (impl_goodYear.f a0 a1).bind fun t218 => (if t218 = true then (if a2 < 1 then (some 0) else (if a2 > 12 then (some 0) else ((impl_monthDays.f a0 a1 a2).bind fun t219 => (some t219)))) else (some 0))

set_option maxHeartbeats 8000000 in
set_option maxRecDepth 100000 in
theorem impl_MonthDays.calls (a0 : Int) (a1 : Int) (a2 : Int) (r : Int) (w : World) (hT : Tab w) (h : impl_MonthDays.f a0 a1 a2 = some r) :
  Calls Tryd.prog 22 #[.int .i64 a0, .int .i64 a1, .int .i64 a2] w fun e w' => e = .returned (.int .i64 r) ∧ Drawn0 w w' := by
 have H : ((impl_goodYear.f a0 a1).bind fun t218 => (if t218 = true then (if a2 < 1 then (some 0) else (if a2 > 12 then (some 0) else ((impl_monthDays.f a0 a1 a2).bind fun t219 => (some t219)))) else (some 0))) = some r := h
 clear h
 replace H := Option.bind_eq_some_iff.mp H
 obtain ⟨t218, A40, H⟩ := H
 replace H : (if t218 = true then (if a2 < 1 then (some 0) else (if a2 > 12 then (some 0) else ((impl_monthDays.f a0 a1 a2).bind fun t219 => (some t219)))) else (some 0)) = some r := H
 have A4 := Aside0.mk A40
 clear A40
 by_cases c5 : t218 = true
 ·subst c5
  have H1 : (if a2 < 1 then (some 0) else (if a2 > 12 then (some 0) else ((impl_monthDays.f a0 a1 a2).bind fun t219 => (some t219)))) = some r := by rw [if_pos rfl] at H; exact H
  clear H
  have H := H1
  clear H1
  by_cases c6 : a2 < 1
  ·rw [if_pos c6] at H
   have c6b0 : decide (a2 < 1) = true := decide_eq_true c6
   clear c6
   obtain rfl := Option.some.inj H
   go_enter Tryd.func22, Tryd.ntmps22
   go_wp2_with (first | ((with_reducible refine z9q (f := 63) rfl ?_); refine z17q (some 9) rfl rfl Tryd.func63 (by kernel_rfl) rfl #[.int .i64 a0, .int .i64 a1] rfl (by (try simp only [map_toArray, map_cons, map_nil]); first | done | rfl | (simp only [length_drop, length_take]; rfl)) ?_; (with_reducible refine (impl_goodYear.calls a0 a1 true _ A4.out).mono ?_); rintro e w' ⟨rfl, ⟨nd, rfl⟩⟩; refine ⟨_, rfl, ?_⟩))
   go_ret
   exact ⟨by first | rfl | (simp; done) | (simp [*]; done), by repeat (first | exact Drawn0.refl _ | apply Drawn0.step)⟩
  ·rw [if_neg c6] at H
   have c6b0 : decide (a2 < 1) = false := decide_eq_false c6
   clear c6
   by_cases c7 : a2 > 12
   ·rw [if_pos c7] at H
    have c7b0 : decide (12 < a2) = true := decide_eq_true c7
    clear c7
    obtain rfl := Option.some.inj H
    go_enter Tryd.func22, Tryd.ntmps22
    go_wp2_with (first | ((with_reducible refine z9q (f := 63) rfl ?_); refine z17q (some 9) rfl rfl Tryd.func63 (by kernel_rfl) rfl #[.int .i64 a0, .int .i64 a1] rfl (by (try simp only [map_toArray, map_cons, map_nil]); first | done | rfl | (simp only [length_drop, length_take]; rfl)) ?_; (with_reducible refine (impl_goodYear.calls a0 a1 true _ A4.out).mono ?_); rintro e w' ⟨rfl, ⟨nd, rfl⟩⟩; refine ⟨_, rfl, ?_⟩))
    go_ret
    exact ⟨by first | rfl | (simp; done) | (simp [*]; done), by repeat (first | exact Drawn0.refl _ | apply Drawn0.step)⟩
   ·rw [if_neg c7] at H
    have c7b0 : decide (12 < a2) = false := decide_eq_false c7
    clear c7
    replace H := Option.bind_eq_some_iff.mp H
    obtain ⟨t219, A80, H⟩ := H
    replace H : (some t219) = some r := H
    have A8 := Aside0.mk A80
    clear A80
    obtain rfl := Option.some.inj H
    go_enter Tryd.func22, Tryd.ntmps22
    go_wp2_with (first | ((with_reducible refine z9q (f := 63) rfl ?_); refine z17q (some 9) rfl rfl Tryd.func63 (by kernel_rfl) rfl #[.int .i64 a0, .int .i64 a1] rfl (by (try simp only [map_toArray, map_cons, map_nil]); first | done | rfl | (simp only [length_drop, length_take]; rfl)) ?_; (with_reducible refine (impl_goodYear.calls a0 a1 true _ A4.out).mono ?_); rintro e w' ⟨rfl, ⟨nd, rfl⟩⟩; refine ⟨_, rfl, ?_⟩) | ((with_reducible refine z9q (f := 64) rfl ?_); refine z17q (some 22) rfl rfl Tryd.func64 (by kernel_rfl) rfl #[.int .i64 a0, .int .i64 a1, .int .i64 a2] rfl (by (try simp only [map_toArray, map_cons, map_nil]); first | done | rfl | (simp only [length_drop, length_take]; rfl)) ?_; (with_reducible refine (impl_monthDays.calls a0 a1 a2 t219 _ (hT.below (by repeat (first | exact HB.out | exact Below.refl _ _ | apply z2q | apply z0q | apply z1q))) A8.out).mono ?_); rintro e w' ⟨rfl, ⟨nd, rfl⟩⟩; refine ⟨_, rfl, ?_⟩))
    go_ret
    exact ⟨by first | rfl | (simp; done) | (simp [*]; done), by repeat (first | exact Drawn0.refl _ | apply Drawn0.step)⟩
 ·replace c5 := Bool.eq_false_iff.mpr c5
  subst c5
  have H1 : (some 0) = some r := by rw [if_neg (show ¬ (false = true) by decide)] at H; exact H
  clear H
  have H := H1
  clear H1
  obtain rfl := Option.some.inj H
  go_enter Tryd.func22, Tryd.ntmps22
  go_wp2_with (first | ((with_reducible refine z9q (f := 63) rfl ?_); refine z17q (some 9) rfl rfl Tryd.func63 (by kernel_rfl) rfl #[.int .i64 a0, .int .i64 a1] rfl (by (try simp only [map_toArray, map_cons, map_nil]); first | done | rfl | (simp only [length_drop, length_take]; rfl)) ?_; (with_reducible refine (impl_goodYear.calls a0 a1 false _ A4.out).mono ?_); rintro e w' ⟨rfl, ⟨nd, rfl⟩⟩; refine ⟨_, rfl, ?_⟩))
  go_ret
  exact ⟨by first | rfl | (simp; done) | (simp [*]; done), by repeat (first | exact Drawn0.refl _ | apply Drawn0.step)⟩



/-! ### impl_WeekOf: function 23 -/

def impl_WeekOf.f (k : Nat) (a0 : Int) : Option (Int × Int) := (impl_isDay.f a0).bind fun t220 => (if t220 = true then ((impl_floorMod_int.f (wrap64 (a0 + 5)) 7).bind fun t221 => ((impl_dateOf.f k 1 (wrap64 ((wrap64 (a0 - t221)) + 3))).bind fun bt222 => ((impl_baseDay.f k 1).bind fun t225 => ((impl_yearStart.f 1 bt222.1).bind fun t226 => (some (bt222.1, wrap64 ((wrap64 (Int.tdiv (wrap64 ((wrap64 ((wrap64 ((wrap64 (a0 - t221)) + 3)) + t225)) - t226)) 7)) + 1))))))) else (some (0, 0)))

set_option maxHeartbeats 8000000 in
set_option maxRecDepth 100000 in
theorem impl_WeekOf.calls (k : Nat) (a0 : Int) (r1 : Int) (r2 : Int) (w : World) (hT : Tab w) (h : impl_WeekOf.f k a0 = some (r1, r2)) :
  Calls Tryd.prog 23 #[.int .i64 a0] w fun e w' => e = .returned (.tuple #[.int .i64 r1, .int .i64 r2]) ∧ Below w.heap.size w w' := by
 have hfd36_0 : ∀ (x0 x1 x2 : Value) (w : World), (Instr.field 36 (.agg #[x0, x1, x2]) 0).run Tryd.prog w = .ok x0 w := fun _ _ _ _ => by kernel_rfl
 have HB := Aside0.mk (Below.refl w.heap.size w)
 have H : ((impl_isDay.f a0).bind fun t220 => (if t220 = true then ((impl_floorMod_int.f (wrap64 (a0 + 5)) 7).bind fun t221 => ((impl_dateOf.f k 1 (wrap64 ((wrap64 (a0 - t221)) + 3))).bind fun bt222 => ((impl_baseDay.f k 1).bind fun t225 => ((impl_yearStart.f 1 bt222.1).bind fun t226 => (some (bt222.1, wrap64 ((wrap64 (Int.tdiv (wrap64 ((wrap64 ((wrap64 ((wrap64 (a0 - t221)) + 3)) + t225)) - t226)) 7)) + 1))))))) else (some (0, 0)))) = some (r1, r2) := h
 clear h
 replace H := Option.bind_eq_some_iff.mp H
 obtain ⟨t220, A20, H⟩ := H
 replace H : (if t220 = true then ((impl_floorMod_int.f (wrap64 (a0 + 5)) 7).bind fun t221 => ((impl_dateOf.f k 1 (wrap64 ((wrap64 (a0 - t221)) + 3))).bind fun bt222 => ((impl_baseDay.f k 1).bind fun t225 => ((impl_yearStart.f 1 bt222.1).bind fun t226 => (some (bt222.1, wrap64 ((wrap64 (Int.tdiv (wrap64 ((wrap64 ((wrap64 ((wrap64 (a0 - t221)) + 3)) + t225)) - t226)) 7)) + 1))))))) else (some (0, 0))) = some (r1, r2) := H
 have A2 := Aside0.mk A20
 clear A20
 by_cases c3 : t220 = true
 ·subst c3
  have H1 : ((impl_floorMod_int.f (wrap64 (a0 + 5)) 7).bind fun t221 => ((impl_dateOf.f k 1 (wrap64 ((wrap64 (a0 - t221)) + 3))).bind fun bt222 => ((impl_baseDay.f k 1).bind fun t225 => ((impl_yearStart.f 1 bt222.1).bind fun t226 => (some (bt222.1, wrap64 ((wrap64 (Int.tdiv (wrap64 ((wrap64 ((wrap64 ((wrap64 (a0 - t221)) + 3)) + t225)) - t226)) 7)) + 1))))))) = some (r1, r2) := by rw [if_pos rfl] at H; exact H
  clear H
  have H := H1
  clear H1
  replace H := Option.bind_eq_some_iff.mp H
  obtain ⟨t221, A40, H⟩ := H
  replace H : ((impl_dateOf.f k 1 (wrap64 ((wrap64 (a0 - t221)) + 3))).bind fun bt222 => ((impl_baseDay.f k 1).bind fun t225 => ((impl_yearStart.f 1 bt222.1).bind fun t226 => (some (bt222.1, wrap64 ((wrap64 (Int.tdiv (wrap64 ((wrap64 ((wrap64 ((wrap64 (a0 - t221)) + 3)) + t225)) - t226)) 7)) + 1)))))) = some (r1, r2) := H
  have A4 := Aside0.mk A40
  clear A40
  replace H := Option.bind_eq_some_iff.mp H
  obtain ⟨⟨t222, t223, t224⟩, A50, H⟩ := H
  replace H : ((impl_baseDay.f k 1).bind fun t225 => ((impl_yearStart.f 1 t222).bind fun t226 => (some (t222, wrap64 ((wrap64 (Int.tdiv (wrap64 ((wrap64 ((wrap64 ((wrap64 (a0 - t221)) + 3)) + t225)) - t226)) 7)) + 1))))) = some (r1, r2) := H
  have A5 := Aside0.mk A50
  clear A50
  replace H := Option.bind_eq_some_iff.mp H
  obtain ⟨t225, A60, H⟩ := H
  replace H : ((impl_yearStart.f 1 t222).bind fun t226 => (some (t222, wrap64 ((wrap64 (Int.tdiv (wrap64 ((wrap64 ((wrap64 ((wrap64 (a0 - t221)) + 3)) + t225)) - t226)) 7)) + 1)))) = some (r1, r2) := H
  have A6 := Aside0.mk A60
  clear A60
  replace H := Option.bind_eq_some_iff.mp H
  obtain ⟨t226, A70, H⟩ := H
  replace H : (some (t222, wrap64 ((wrap64 (Int.tdiv (wrap64 ((wrap64 ((wrap64 ((wrap64 (a0 - t221)) + 3)) + t225)) - t226)) 7)) + 1))) = some (r1, r2) := H
  have A7 := Aside0.mk A70
  clear A70
  simp only [Option.some.injEq, Prod.mk.injEq] at H
  obtain ⟨rfl, rfl⟩ := H
  go_enter Tryd.func23, Tryd.ntmps23
  go_wp2_with (first | ((with_reducible refine z9q (f := 53) rfl ?_); refine z17q (some 7) rfl rfl Tryd.func53 (by kernel_rfl) rfl #[.int .i64 a0] rfl (by (try simp only [map_toArray, map_cons, map_nil]); first | done | rfl | (simp only [length_drop, length_take]; rfl)) ?_; (with_reducible refine (impl_isDay.calls a0 true _ A2.out).mono ?_); rintro e w' ⟨rfl, ⟨nd, rfl⟩⟩; refine ⟨_, rfl, ?_⟩) | ((with_reducible refine z9q (f := 58) rfl ?_); refine z17q (some 12) rfl rfl Tryd.func58 (by kernel_rfl) rfl #[.int .i64 (wrap64 (a0 + 5)), .int .i64 7] rfl (by (try simp only [map_toArray, map_cons, map_nil]); first | done | rfl | (simp only [length_drop, length_take]; rfl)) ?_; (with_reducible refine (impl_floorMod_int.calls (wrap64 (a0 + 5)) 7 t221 _ A4.out).mono ?_); rintro e w' ⟨rfl, ⟨nd, rfl⟩⟩; refine ⟨_, rfl, ?_⟩) | ((with_reducible refine z9q (f := 54) rfl ?_); refine z17q (some 16) rfl rfl Tryd.func54 (by kernel_rfl) rfl #[.int .i64 1, .int .i64 (wrap64 ((wrap64 (a0 - t221)) + 3))] rfl (by (try simp only [map_toArray, map_cons, map_nil]); first | done | rfl | (simp only [length_drop, length_take]; rfl)) ?_; (with_reducible refine (impl_dateOf.calls k 1 (wrap64 ((wrap64 (a0 - t221)) + 3)) t222 t223 t224 _ (hT.below (by repeat (first | exact HB.out | exact Below.refl _ _ | apply z2q | apply z0q | apply z1q))) A5.out).mono ?_); rintro e w8 ⟨rfl, hb⟩; refine ⟨_, rfl, ?_⟩; have n0_ := Aside0.mk (z11q (by repeat (first | (with_reducible first | exact HB.out | apply z2q | apply z0q | apply z1q) | exact HB.out)) hb); clear HB; have HB := n0_; clear n0_; (try clear hb); (try clear hb2); (try clear hk); (try clear hi)) | ((with_reducible refine z9q (f := 62) rfl ?_); refine z17q (some 20) rfl rfl Tryd.func62 (by kernel_rfl) rfl #[.int .i64 1] rfl (by (try simp only [map_toArray, map_cons, map_nil]); first | done | rfl | (simp only [length_drop, length_take]; rfl)) ?_; (with_reducible refine (impl_baseDay.calls k 1 t225 _ (hT.below (by repeat (first | exact HB.out | exact Below.refl _ _ | apply z2q | apply z0q | apply z1q))) A6.out).mono ?_); rintro e w9 ⟨rfl, hb⟩; refine ⟨_, rfl, ?_⟩; have n0_ := Aside0.mk (z11q (by repeat (first | (with_reducible first | exact HB.out | apply z2q | apply z0q | apply z1q) | exact HB.out)) hb); clear HB; have HB := n0_; clear n0_; (try clear hb); (try clear hb2); (try clear hk); (try clear hi)) | ((with_reducible refine z9q (f := 65) rfl ?_); refine z17q (some 23) rfl rfl Tryd.func65 (by kernel_rfl) rfl #[.int .i64 1, .int .i64 t222] rfl (by (try simp only [map_toArray, map_cons, map_nil]); first | done | rfl | (simp only [length_drop, length_take]; rfl)) ?_; (with_reducible refine (impl_yearStart.calls 1 t222 t226 _ A7.out).mono ?_); rintro e w' ⟨rfl, ⟨nd, rfl⟩⟩; refine ⟨_, rfl, ?_⟩))
  go_ret2
  exact ⟨by first | rfl | (simp [errW_none, errW_some] <;> rfl) | (simp [*, errW_none, errW_some] <;> rfl), by repeat (first | (with_reducible first | exact HB.out | apply z2q | apply z0q | apply z1q) | exact HB.out)⟩
 ·replace c3 := Bool.eq_false_iff.mpr c3
  subst c3
  have H1 : (some (0, 0)) = some (r1, r2) := by rw [if_neg (show ¬ (false = true) by decide)] at H; exact H
  clear H
  have H := H1
  clear H1
  simp only [Option.some.injEq, Prod.mk.injEq] at H
  obtain ⟨rfl, rfl⟩ := H
  go_enter Tryd.func23, Tryd.ntmps23
  go_wp2_with (first | ((with_reducible refine z9q (f := 53) rfl ?_); refine z17q (some 7) rfl rfl Tryd.func53 (by kernel_rfl) rfl #[.int .i64 a0] rfl (by (try simp only [map_toArray, map_cons, map_nil]); first | done | rfl | (simp only [length_drop, length_take]; rfl)) ?_; (with_reducible refine (impl_isDay.calls a0 false _ A2.out).mono ?_); rintro e w' ⟨rfl, ⟨nd, rfl⟩⟩; refine ⟨_, rfl, ?_⟩))
  go_ret2
  exact ⟨by first | rfl | (simp [errW_none, errW_some] <;> rfl) | (simp [*, errW_none, errW_some] <;> rfl), by repeat (first | (with_reducible first | exact HB.out | apply z2q | apply z0q | apply z1q) | exact HB.out)⟩



/-! ### spec_WeekOf: function 24 -/

def spec_WeekOf.f (k : Nat) (a0 : Int) : Option (Int × Int) := (spec_l2Day.f a0).bind fun t227 => (if t227 = true then ((spec_l2Mod.f (wrap64 (a0 + 5)) 7).bind fun t228 => ((spec_l2DateOf.f k 1 (wrap64 ((wrap64 (a0 - t228)) + 3))).bind fun bt229 => ((spec_l2First.f 1 bt229.1).bind fun bt232 => (some (bt229.1, wrap64 ((wrap64 (Int.tdiv (wrap64 ((wrap64 ((wrap64 (a0 - t228)) + 3)) - bt232.1)) 7)) + 1)))))) else (some (0, 0)))

set_option maxHeartbeats 8000000 in
set_option maxRecDepth 100000 in
theorem spec_WeekOf.calls (k : Nat) (a0 : Int) (r1 : Int) (r2 : Int) (w : World) (h : spec_WeekOf.f k a0 = some (r1, r2)) :
  Calls Tryd.prog 24 #[.int .i64 a0] w fun e w' => e = .returned (.tuple #[.int .i64 r1, .int .i64 r2]) ∧ Below w.heap.size w w' := by
 have hfd36_0 : ∀ (x0 x1 x2 : Value) (w : World), (Instr.field 36 (.agg #[x0, x1, x2]) 0).run Tryd.prog w = .ok x0 w := fun _ _ _ _ => by kernel_rfl
 have HB := Aside0.mk (Below.refl w.heap.size w)
 have H : ((spec_l2Day.f a0).bind fun t227 => (if t227 = true then ((spec_l2Mod.f (wrap64 (a0 + 5)) 7).bind fun t228 => ((spec_l2DateOf.f k 1 (wrap64 ((wrap64 (a0 - t228)) + 3))).bind fun bt229 => ((spec_l2First.f 1 bt229.1).bind fun bt232 => (some (bt229.1, wrap64 ((wrap64 (Int.tdiv (wrap64 ((wrap64 ((wrap64 (a0 - t228)) + 3)) - bt232.1)) 7)) + 1)))))) else (some (0, 0)))) = some (r1, r2) := h
 clear h
 replace H := Option.bind_eq_some_iff.mp H
 obtain ⟨t227, A20, H⟩ := H
 replace H : (if t227 = true then ((spec_l2Mod.f (wrap64 (a0 + 5)) 7).bind fun t228 => ((spec_l2DateOf.f k 1 (wrap64 ((wrap64 (a0 - t228)) + 3))).bind fun bt229 => ((spec_l2First.f 1 bt229.1).bind fun bt232 => (some (bt229.1, wrap64 ((wrap64 (Int.tdiv (wrap64 ((wrap64 ((wrap64 (a0 - t228)) + 3)) - bt232.1)) 7)) + 1)))))) else (some (0, 0))) = some (r1, r2) := H
 have A2 := Aside0.mk A20
 clear A20
 by_cases c3 : t227 = true
 ·subst c3
  have H1 : ((spec_l2Mod.f (wrap64 (a0 + 5)) 7).bind fun t228 => ((spec_l2DateOf.f k 1 (wrap64 ((wrap64 (a0 - t228)) + 3))).bind fun bt229 => ((spec_l2First.f 1 bt229.1).bind fun bt232 => (some (bt229.1, wrap64 ((wrap64 (Int.tdiv (wrap64 ((wrap64 ((wrap64 (a0 - t228)) + 3)) - bt232.1)) 7)) + 1)))))) = some (r1, r2) := by rw [if_pos rfl] at H; exact H
  clear H
  have H := H1
  clear H1
  replace H := Option.bind_eq_some_iff.mp H
  obtain ⟨t228, A40, H⟩ := H
  replace H : ((spec_l2DateOf.f k 1 (wrap64 ((wrap64 (a0 - t228)) + 3))).bind fun bt229 => ((spec_l2First.f 1 bt229.1).bind fun bt232 => (some (bt229.1, wrap64 ((wrap64 (Int.tdiv (wrap64 ((wrap64 ((wrap64 (a0 - t228)) + 3)) - bt232.1)) 7)) + 1))))) = some (r1, r2) := H
  have A4 := Aside0.mk A40
  clear A40
  replace H := Option.bind_eq_some_iff.mp H
  obtain ⟨⟨t229, t230, t231⟩, A50, H⟩ := H
  replace H : ((spec_l2First.f 1 t229).bind fun bt232 => (some (t229, wrap64 ((wrap64 (Int.tdiv (wrap64 ((wrap64 ((wrap64 (a0 - t228)) + 3)) - bt232.1)) 7)) + 1)))) = some (r1, r2) := H
  have A5 := Aside0.mk A50
  clear A50
  replace H := Option.bind_eq_some_iff.mp H
  obtain ⟨⟨t232, t233⟩, A60, H⟩ := H
  replace H : (some (t229, wrap64 ((wrap64 (Int.tdiv (wrap64 ((wrap64 ((wrap64 (a0 - t228)) + 3)) - t232)) 7)) + 1))) = some (r1, r2) := H
  have A6 := Aside0.mk A60
  clear A60
  simp only [Option.some.injEq, Prod.mk.injEq] at H
  obtain ⟨rfl, rfl⟩ := H
  go_enter Tryd.func24, Tryd.ntmps24
  go_wp2_with (first | ((with_reducible refine z9q (f := 56) rfl ?_); refine z17q (some 9) rfl rfl Tryd.func56 (by kernel_rfl) rfl #[.int .i64 a0] rfl (by (try simp only [map_toArray, map_cons, map_nil]); first | done | rfl | (simp only [length_drop, length_take]; rfl)) ?_; (with_reducible refine (spec_l2Day.calls a0 true _ A2.out).mono ?_); rintro e w' ⟨rfl, ⟨nd, rfl⟩⟩; refine ⟨_, rfl, ?_⟩) | ((with_reducible refine z9q (f := 59) rfl ?_); refine z17q (some 14) rfl rfl Tryd.func59 (by kernel_rfl) rfl #[.int .i64 (wrap64 (a0 + 5)), .int .i64 7] rfl (by (try simp only [map_toArray, map_cons, map_nil]); first | done | rfl | (simp only [length_drop, length_take]; rfl)) ?_; (with_reducible refine (spec_l2Mod.calls (wrap64 (a0 + 5)) 7 t228 _ A4.out).mono ?_); rintro e w' ⟨rfl, ⟨nd, rfl⟩⟩; refine ⟨_, rfl, ?_⟩) | ((with_reducible refine z9q (f := 57) rfl ?_); refine z17q (some 18) rfl rfl Tryd.func57 (by kernel_rfl) rfl #[.int .i64 1, .int .i64 (wrap64 ((wrap64 (a0 - t228)) + 3))] rfl (by (try simp only [map_toArray, map_cons, map_nil]); first | done | rfl | (simp only [length_drop, length_take]; rfl)) ?_; (with_reducible refine (spec_l2DateOf.calls k 1 (wrap64 ((wrap64 (a0 - t228)) + 3)) t229 t230 t231 _ A5.out).mono ?_); rintro e w7 ⟨rfl, hb⟩; refine ⟨_, rfl, ?_⟩; have n0_ := Aside0.mk (z11q (by repeat (first | (with_reducible first | exact HB.out | apply z2q | apply z0q | apply z1q) | exact HB.out)) hb); clear HB; have HB := n0_; clear n0_; (try clear hb); (try clear hb2); (try clear hk); (try clear hi)) | ((with_reducible refine z9q (f := 66) rfl ?_); refine z17q (some 22) rfl rfl Tryd.func66 (by kernel_rfl) rfl #[.int .i64 1, .int .i64 t229] rfl (by (try simp only [map_toArray, map_cons, map_nil]); first | done | rfl | (simp only [length_drop, length_take]; rfl)) ?_; (with_reducible refine (spec_l2First.calls 1 t229 t232 t233 _ A6.out).mono ?_); rintro e w' ⟨rfl, ⟨nd, rfl⟩⟩; refine ⟨_, rfl, ?_⟩))
  go_ret2
  exact ⟨by first | rfl | (simp [errW_none, errW_some] <;> rfl) | (simp [*, errW_none, errW_some] <;> rfl), by repeat (first | (with_reducible first | exact HB.out | apply z2q | apply z0q | apply z1q) | exact HB.out)⟩
 ·replace c3 := Bool.eq_false_iff.mpr c3
  subst c3
  have H1 : (some (0, 0)) = some (r1, r2) := by rw [if_neg (show ¬ (false = true) by decide)] at H; exact H
  clear H
  have H := H1
  clear H1
  simp only [Option.some.injEq, Prod.mk.injEq] at H
  obtain ⟨rfl, rfl⟩ := H
  go_enter Tryd.func24, Tryd.ntmps24
  go_wp2_with (first | ((with_reducible refine z9q (f := 56) rfl ?_); refine z17q (some 9) rfl rfl Tryd.func56 (by kernel_rfl) rfl #[.int .i64 a0] rfl (by (try simp only [map_toArray, map_cons, map_nil]); first | done | rfl | (simp only [length_drop, length_take]; rfl)) ?_; (with_reducible refine (spec_l2Day.calls a0 false _ A2.out).mono ?_); rintro e w' ⟨rfl, ⟨nd, rfl⟩⟩; refine ⟨_, rfl, ?_⟩))
  go_ret2
  exact ⟨by first | rfl | (simp [errW_none, errW_some] <;> rfl) | (simp [*, errW_none, errW_some] <;> rfl), by repeat (first | (with_reducible first | exact HB.out | apply z2q | apply z0q | apply z1q) | exact HB.out)⟩



/-! ### strconv_Itoa: function 81 -/

def shl_laysM171_ren : Go.Shelf.Ren := ⟨fun | 171 => 81 | 243 => 115 | 246 => 139 | 283 => 159 | 284 => 160 | 285 => 161 | 286 => 162 | 129 => 169 | 317 => 168 | 318 => 170 | 319 => 171 | 320 => 172 | 337 => 173 | 338 => 174 | n => n, fun | 3 => 3 | 9 => 9 | 2 => 2 | 4 => 4 | 171 => 165 | 0 => 0 | 53 => 78 | 37 => 32 | 5 => 5 | 173 => 168 | 212 => 179 | 51 => 147 | 20 => 20 | 213 => 180 | 46 => 121 | 232 => 183 | 233 => 184 | n => n, fun | 17 => 5 | 18 => 6 | 19 => 7 | n => n⟩

theorem shl_laysM171 : Go.Proofs.LaysM.n171 Tryd.prog shl_laysM171_ren := {
 mixed := by kernel_rfl
 f129 := Tryd.func169.trans (congrArg some (by kernel_rfl))
 f171 := Tryd.func81.trans (congrArg some (by kernel_rfl))
 f243 := Tryd.func115.trans (congrArg some (by kernel_rfl))
 f246 := Tryd.func139.trans (congrArg some (by kernel_rfl))
 f283 := Tryd.func159.trans (congrArg some (by kernel_rfl))
 f284 := Tryd.func160.trans (congrArg some (by kernel_rfl))
 f285 := Tryd.func161.trans (congrArg some (by kernel_rfl))
 f286 := Tryd.func162.trans (congrArg some (by kernel_rfl))
 f317 := Tryd.func168.trans (congrArg some (by kernel_rfl))
 f318 := Tryd.func170.trans (congrArg some (by kernel_rfl))
 f319 := Tryd.func171.trans (congrArg some (by kernel_rfl))
 f320 := Tryd.func172.trans (congrArg some (by kernel_rfl))
 f337 := Tryd.func173.trans (congrArg some (by kernel_rfl))
 f338 := Tryd.func174.trans (congrArg some (by kernel_rfl))
 t0 := Tryd.underlying0
 a0 := Tryd.isAgg0
 z0 := Tryd.sizeOf0
 v0 := Tryd.zeroValue0
 t2 := Tryd.underlying2
 a2 := Tryd.isAgg2
 z2 := Tryd.sizeOf2
 v2 := Tryd.zeroValue2
 t3 := Tryd.underlying3
 a3 := Tryd.isAgg3
 z3 := Tryd.sizeOf3
 v3 := Tryd.zeroValue3
 t4 := Tryd.underlying4
 a4 := Tryd.isAgg4
 z4 := Tryd.sizeOf4
 v4 := Tryd.zeroValue4
 t5 := Tryd.underlying5
 a5 := Tryd.isAgg5
 z5 := Tryd.sizeOf5
 v5 := Tryd.zeroValue5
 t9 := Tryd.underlying9
 a9 := Tryd.isAgg9
 z9 := Tryd.sizeOf9
 v9 := Tryd.zeroValue9
 t20 := Tryd.underlying20
 a20 := Tryd.isAgg20
 z20 := Tryd.sizeOf20
 v20 := Tryd.zeroValue20
 t37 := Tryd.underlying32
 a37 := Tryd.isAgg32
 z37 := Tryd.sizeOf32
 v37 := Tryd.zeroValue32
 t46 := Tryd.underlying121
 a46 := Tryd.isAgg121
 z46 := Tryd.sizeOf121
 v46 := Tryd.zeroValue121
 t51 := Tryd.underlying147
 a51 := Tryd.isAgg147
 z51 := Tryd.sizeOf147
 v51 := Tryd.zeroValue147
 t53 := Tryd.underlying78
 a53 := Tryd.isAgg78
 z53 := Tryd.sizeOf78
 v53 := Tryd.zeroValue78
 t171 := Tryd.underlying165
 a171 := Tryd.isAgg165
 z171 := Tryd.sizeOf165
 v171 := Tryd.zeroValue165
 t173 := Tryd.underlying168
 a173 := Tryd.isAgg168
 z173 := Tryd.sizeOf168
 v173 := Tryd.zeroValue168
 t212 := Tryd.underlying179
 a212 := Tryd.isAgg179
 z212 := Tryd.sizeOf179
 v212 := Tryd.zeroValue179
 t213 := Tryd.underlying180
 a213 := Tryd.isAgg180
 z213 := Tryd.sizeOf180
 t232 := Tryd.underlying183
 a232 := Tryd.isAgg183
 z232 := Tryd.sizeOf183
 v232 := Tryd.zeroValue183
 t233 := Tryd.underlying184
 a233 := Tryd.isAgg184
 z233 := Tryd.sizeOf184
 v233 := Tryd.zeroValue184
 g17 := by kernel_rfl
 g18 := by kernel_rfl
 g19 := by kernel_rfl
 i0 := by kernel_rfl
 i2 := by kernel_rfl
 i3 := by kernel_rfl
 i4 := by kernel_rfl
 i5 := by kernel_rfl
 i9 := by kernel_rfl
 i20 := by kernel_rfl
 i37 := by kernel_rfl
 i46 := by kernel_rfl
 i51 := by kernel_rfl
 i53 := by kernel_rfl
 i171 := by kernel_rfl
 i173 := by kernel_rfl
 i212 := by kernel_rfl
 i232 := by kernel_rfl
 i233 := by kernel_rfl
 m17 := by kernel_rfl
 m18 := by kernel_rfl
 m19 := by kernel_rfl }

open Go.RowKit Go.Sort Go.Lib in

theorem shl_strconv_Itoa (n : Int) (h0 : -9223372036854775808 ≤ n) (h1 : n ≤ 9223372036854775807) (w : World) (htab : Lib.TabIs Tryd.prog w "internal/strconv.uint64pow10" .u64 Lib.pow10Tab) :
  Calls Tryd.prog 81 #[.int .i64 n] w fun e w' => e = .returned (.string ⟨(Lib.itoa n).toArray⟩) ∧ ∃ k os, w' = grow (w.drewN k) os := Any.strconv_Itoa shl_laysM171 n h0 h1 w htab


theorem itoa_below (w : World) (k : Nat) (os : Array Obj) : Below w.heap.size w (Go.Sort.grow (w.drewN k) os) :=
 ⟨rfl, rfl, rfl, by simp [Go.Sort.grow], fun i hi => by show (w.heap ++ os)[i]? = _; rw [Array.getElem?_append_left hi]⟩

def strconv_Itoa.f (a0 : Int) : Option ByteArray := if -9223372036854775808 ≤ a0 ∧ a0 ≤ 9223372036854775807 then some ⟨(Lib.itoa a0).toArray⟩ else none

theorem strconv_Itoa.calls (a0 : Int) (r : ByteArray) (w : World) (hT : Tab w) (h : strconv_Itoa.f a0 = some r) :
  Calls Tryd.prog 81 #[.int .i64 a0] w fun e w' => e = .returned (.string r) ∧ Below w.heap.size w w' := by
 unfold strconv_Itoa.f at h
 by_cases hs : -9223372036854775808 ≤ a0 ∧ a0 ≤ 9223372036854775807
 ·rw [if_pos hs] at h
  obtain rfl := Option.some.inj h
  exact (shl_strconv_Itoa a0 hs.1 hs.2 w hT.toP).mono fun e w' ⟨he, k, os, hw⟩ => ⟨he, hw ▸ itoa_below w k os⟩
 ·rw [if_neg hs] at h; cases h



/-! ### impl_yearText: function 67 -/

mutual
def impl_yearText.j0 : Nat → Int → ByteArray → Option (ByteArray)
 | 0, _, _ => none
 | k + 1, x0, x3 => (strconv_Itoa.f x0).bind fun t256 => (impl_yearText.l0 k x3 t256)
def impl_yearText.l0 : Nat → ByteArray → ByteArray → Option (ByteArray)
 | 0, _, _ => none
 | k + 1, x3, x4 => if (x4.size : Int) < 4 then (if 1 + x4.size ≤ 9223372036854775807 then (impl_yearText.l0 k x3 ((⟨#[48]⟩ : ByteArray) ++ x4)) else (none)) else (if x3.size + x4.size ≤ 9223372036854775807 then (some (x3 ++ x4)) else (none))
end

def impl_yearText.f (k : Nat) (a0 : Int) : Option (ByteArray) := if a0 < 0 then (impl_yearText.j0 k (wrap64 (-a0)) (⟨#[45]⟩ : ByteArray)) else (impl_yearText.j0 k a0 (⟨#[]⟩ : ByteArray))

set_option maxHeartbeats 8000000 in
set_option maxRecDepth 100000 in
theorem impl_yearText.calls (k : Nat) (a0 : Int) (r : ByteArray) (w : World) (hT : Tab w) (h : impl_yearText.f k a0 = some r) :
  Calls Tryd.prog 67 #[.int .i64 a0] w fun e w' => e = .returned (.string r) ∧ Below w.heap.size w w' := by
 have HB := Aside0.mk (Below.refl w.heap.size w)
 have H : (if a0 < 0 then (impl_yearText.j0 k (wrap64 (-a0)) (⟨#[45]⟩ : ByteArray)) else (impl_yearText.j0 k a0 (⟨#[]⟩ : ByteArray))) = some r := h
 clear h
 have HC2 := Aside0.mk H
 clear H
 go_enter Tryd.func67, Tryd.ntmps67
 go_upto_if 6 with (fail)
 go_cut [0, 3] (fun v0 v3 wc => ∃ (kq : Nat) (x0_1 : Int) (x3_1 : ByteArray), v0 = .int .i64 x0_1 ∧ v3 = .string x3_1 ∧ Aside0 (impl_yearText.j0 kq x0_1 x3_1 = some r) ∧ Aside0 (kq ≤ k) ∧ Aside0 (Below w.heap.size w wc))
 case first =>
  have H := HC2.out
  clear HC2
  by_cases c3 : a0 < 0
  ·rw [if_pos c3] at H
   have c3b0 : decide (a0 < 0) = true := decide_eq_true c3
   clear c3
   (first | rw [c3b0] | (simp only [i64_w, i32_w]; rw [c3b0]) | skip)
   have H' := Aside0.mk H
   clear H
   go_wp2
   go_meet
   case rel => exact ⟨_, (wrap64 (-a0)), ((⟨#[45]⟩ : ByteArray)), (by first | rfl | (simp; done) | (simp [*]; done) | (simp; unfold wrap64; omega)), (by first | rfl | (simp; done) | (simp [*]; done) | (simp; unfold wrap64; omega)), H', ⟨by first | omega | exact Nat.le_refl _⟩, ⟨by repeat (first | (with_reducible first | exact HB.out | apply z2q | apply z0q | apply z1q) | exact HB.out)⟩⟩
  ·rw [if_neg c3] at H
   have c3b0 : decide (a0 < 0) = false := decide_eq_false c3
   clear c3
   (first | rw [c3b0] | (simp only [i64_w, i32_w]; rw [c3b0]) | skip)
   have H' := Aside0.mk H
   clear H
   go_wp2
   go_meet
   case rel => exact ⟨_, (a0), ((⟨#[]⟩ : ByteArray)), (by first | rfl | (simp; done) | (simp [*]; done) | (simp; unfold wrap64; omega)), (by first | rfl | (simp; done) | (simp [*]; done) | (simp; unfold wrap64; omega)), H', ⟨by first | omega | exact Nat.le_refl _⟩, ⟨by repeat (first | (with_reducible first | exact HB.out | apply z2q | apply z0q | apply z1q) | exact HB.out)⟩⟩
 case rest =>
  clear HC2
  try clear p2
  try clear c3
  try clear c3b0
  obtain ⟨kq, x0_1, x3_1, rfl, rfl, HA, HJ1, HB⟩ := hcut
  cases kq with
  | zero => exact absurd HA.out (by simp [impl_yearText.j0])
  | succ kj1 =>
   have H := HA.out
   clear HA
   simp only [impl_yearText.j0] at H
   replace H := Option.bind_eq_some_iff.mp H
   obtain ⟨t256, A40, H⟩ := H
   replace H : (impl_yearText.l0 kj1 x3_1 t256) = some r := H
   have A4 := Aside0.mk A40
   clear A40
   have H' := Aside0.mk H
   clear H
   go_wp2_with (first | ((with_reducible refine z9q (f := 81) rfl ?_); refine z17q (some 10) rfl rfl Tryd.func81 (by kernel_rfl) rfl #[.int .i64 x0_1] rfl (by (try simp only [map_toArray, map_cons, map_nil]); first | done | rfl | (simp only [length_drop, length_take]; rfl)) ?_; (with_reducible refine (strconv_Itoa.calls x0_1 t256 _ (hT.below (by repeat (first | exact HB.out | exact Below.refl _ _ | apply z2q | apply z0q | apply z1q))) A4.out).mono ?_); rintro e w5 ⟨rfl, hb⟩; refine ⟨_, rfl, ?_⟩; have n0_ := Aside0.mk (z11q (by repeat (first | (with_reducible first | exact HB.out | apply z2q | apply z0q | apply z1q) | exact HB.out)) hb); clear HB; have HB := n0_; clear n0_; (try clear hb); (try clear hb2); (try clear hk); (try clear hi)))
   go_loopg [4] kj1 (fun kq v4 w' => ∃ (x4_2 : ByteArray), v4 = .string x4_2 ∧ Aside0 (impl_yearText.l0 kq x3_1 x4_2 = some r) ∧ Aside0 (kq ≤ kj1) ∧ Aside0 (Below w.heap.size w w'))
   case atStart => exact ⟨(t256), (by first | rfl | (simp; done) | (simp [*]; done) | (simp; unfold wrap64; omega)), H', ⟨Nat.le_refl _⟩, ⟨by repeat (first | (with_reducible first | exact HB.out | apply z2q | apply z0q | apply z1q) | exact HB.out)⟩⟩
   case round =>
    clear H'
    try clear p2
    try clear c3
    try clear c3b0
    try clear p2
    obtain ⟨x4_2, rfl, HA, HK2, HB⟩ := hrel
    cases gk with
    | zero => exact absurd HA.out (by simp [impl_yearText.l0])
    | succ k2 =>
     have H := HA.out
     clear HA
     simp only [impl_yearText.l0] at H
     by_cases c6 : (x4_2.size : Int) < 4
     ·rw [if_pos c6] at H
      have c6b0 : decide ((x4_2.size : Int) < 4) = true := decide_eq_true c6
      have c6b1 : decide (x4_2.size < 4) = true := decide_eq_true (by omega)
      clear c6
      by_cases c7 : 1 + x4_2.size ≤ 9223372036854775807
      ·rw [if_pos c7] at H
       have c7b0 := eq_true c7
       have c7b1 : decide (1 + x4_2.size ≤ 9223372036854775807) = true := decide_eq_true c7
       try have c7b2 : (9223372036854775807 < 1 + x4_2.size) = False := eq_false (Nat.not_lt.2 c7)
       have H' := Aside0.mk H
       clear H
       go_wp2
       go_roundg k2
       case measure => have := HJ1.out; have := HK2.out; omega
       case rel => exact ⟨((⟨#[48]⟩ : ByteArray) ++ x4_2), (by first | rfl | (simp; done) | (simp [*]; done) | (simp; unfold wrap64; omega)), H', ⟨by have := HJ1.out; have := HK2.out; omega⟩, ⟨by repeat (first | (with_reducible first | exact HB.out | apply z2q | apply z0q | apply z1q) | exact HB.out)⟩⟩
      ·rw [if_neg c7] at H
       exact absurd H (by simp)
     ·rw [if_neg c6] at H
      have c6b0 : decide ((x4_2.size : Int) < 4) = false := decide_eq_false c6
      have c6b1 : decide (x4_2.size < 4) = false := decide_eq_false (by omega)
      clear c6
      by_cases c8 : x3_1.size + x4_2.size ≤ 9223372036854775807
      ·rw [if_pos c8] at H
       have c8b0 := eq_true c8
       have c8b1 : decide (x3_1.size + x4_2.size ≤ 9223372036854775807) = true := decide_eq_true c8
       try have c8b2 : (9223372036854775807 < x3_1.size + x4_2.size) = False := eq_false (Nat.not_lt.2 c8)
       obtain rfl := Option.some.inj H
       go_wp2
       go_ret
       exact ⟨by first | rfl | (simp [errW_none, errW_some] <;> rfl) | (simp [*, errW_none, errW_some] <;> rfl), by repeat (first | (with_reducible first | exact HB.out | apply z2q | apply z0q | apply z1q) | exact HB.out)⟩
      ·rw [if_neg c8] at H
       exact absurd H (by simp)



/-! ### impl_twoDigits: function 68 -/

def impl_twoDigits.f (a0 : Int) : Option (ByteArray) := if a0 < 10 then ((strconv_Itoa.f a0).bind fun t257 => (if 1 + t257.size ≤ 9223372036854775807 then (some ((⟨#[48]⟩ : ByteArray) ++ t257)) else (none))) else ((strconv_Itoa.f a0).bind fun t258 => (some t258))

set_option maxHeartbeats 8000000 in
set_option maxRecDepth 100000 in
theorem impl_twoDigits.calls (a0 : Int) (r : ByteArray) (w : World) (hT : Tab w) (h : impl_twoDigits.f a0 = some r) :
  Calls Tryd.prog 68 #[.int .i64 a0] w fun e w' => e = .returned (.string r) ∧ Below w.heap.size w w' := by
 have HB := Aside0.mk (Below.refl w.heap.size w)
 have H : (if a0 < 10 then ((strconv_Itoa.f a0).bind fun t257 => (if 1 + t257.size ≤ 9223372036854775807 then (some ((⟨#[48]⟩ : ByteArray) ++ t257)) else (none))) else ((strconv_Itoa.f a0).bind fun t258 => (some t258))) = some r := h
 clear h
 by_cases c2 : a0 < 10
 ·rw [if_pos c2] at H
  have c2b0 : decide (a0 < 10) = true := decide_eq_true c2
  clear c2
  replace H := Option.bind_eq_some_iff.mp H
  obtain ⟨t257, A30, H⟩ := H
  replace H : (if 1 + t257.size ≤ 9223372036854775807 then (some ((⟨#[48]⟩ : ByteArray) ++ t257)) else (none)) = some r := H
  have A3 := Aside0.mk A30
  clear A30
  by_cases c4 : 1 + t257.size ≤ 9223372036854775807
  ·rw [if_pos c4] at H
   have c4b0 := eq_true c4
   have c4b1 : decide (1 + t257.size ≤ 9223372036854775807) = true := decide_eq_true c4
   try have c4b2 : (9223372036854775807 < 1 + t257.size) = False := eq_false (Nat.not_lt.2 c4)
   obtain rfl := Option.some.inj H
   go_enter Tryd.func68, Tryd.ntmps68
   go_wp2_with (first | ((with_reducible refine z9q (f := 81) rfl ?_); refine z17q (some 6) rfl rfl Tryd.func81 (by kernel_rfl) rfl #[.int .i64 a0] rfl (by (try simp only [map_toArray, map_cons, map_nil]); first | done | rfl | (simp only [length_drop, length_take]; rfl)) ?_; (with_reducible refine (strconv_Itoa.calls a0 t257 _ (hT.below (by repeat (first | exact HB.out | exact Below.refl _ _ | apply z2q | apply z0q | apply z1q))) A3.out).mono ?_); rintro e w5 ⟨rfl, hb⟩; refine ⟨_, rfl, ?_⟩; have n0_ := Aside0.mk (z11q (by repeat (first | (with_reducible first | exact HB.out | apply z2q | apply z0q | apply z1q) | exact HB.out)) hb); clear HB; have HB := n0_; clear n0_; (try clear hb); (try clear hb2); (try clear hk); (try clear hi)))
   go_ret
   exact ⟨by first | rfl | (simp [errW_none, errW_some] <;> rfl) | (simp [*, errW_none, errW_some] <;> rfl), by repeat (first | (with_reducible first | exact HB.out | apply z2q | apply z0q | apply z1q) | exact HB.out)⟩
  ·rw [if_neg c4] at H
   exact absurd H (by simp)
 ·rw [if_neg c2] at H
  have c2b0 : decide (a0 < 10) = false := decide_eq_false c2
  clear c2
  replace H := Option.bind_eq_some_iff.mp H
  obtain ⟨t258, A60, H⟩ := H
  replace H : (some t258) = some r := H
  have A6 := Aside0.mk A60
  clear A60
  obtain rfl := Option.some.inj H
  go_enter Tryd.func68, Tryd.ntmps68
  go_wp2_with (first | ((with_reducible refine z9q (f := 81) rfl ?_); refine z17q (some 9) rfl rfl Tryd.func81 (by kernel_rfl) rfl #[.int .i64 a0] rfl (by (try simp only [map_toArray, map_cons, map_nil]); first | done | rfl | (simp only [length_drop, length_take]; rfl)) ?_; (with_reducible refine (strconv_Itoa.calls a0 t258 _ (hT.below (by repeat (first | exact HB.out | exact Below.refl _ _ | apply z2q | apply z0q | apply z1q))) A6.out).mono ?_); rintro e w7 ⟨rfl, hb⟩; refine ⟨_, rfl, ?_⟩; have n0_ := Aside0.mk (z11q (by repeat (first | (with_reducible first | exact HB.out | apply z2q | apply z0q | apply z1q) | exact HB.out)) hb); clear HB; have HB := n0_; clear n0_; (try clear hb); (try clear hb2); (try clear hk); (try clear hi)))
  go_ret
  exact ⟨by first | rfl | (simp [errW_none, errW_some] <;> rfl) | (simp [*, errW_none, errW_some] <;> rfl), by repeat (first | (with_reducible first | exact HB.out | apply z2q | apply z0q | apply z1q) | exact HB.out)⟩



/-! ### impl_DateText: function 25 -/

def impl_DateText.j0 : Nat → Bool → Int → Int → Int → Option (ByteArray)
 | 0, _, _, _, _ => none
 | k + 1, x30, x260000, x260001, x260002 => if x30 = true then (some (⟨#[]⟩ : ByteArray)) else ((impl_yearText.f k x260000).bind fun t260 => (if t260.size + 1 ≤ 9223372036854775807 then ((impl_twoDigits.f x260001).bind fun t261 => (if (t260 ++ (⟨#[45]⟩ : ByteArray)).size + t261.size ≤ 9223372036854775807 then (if ((t260 ++ (⟨#[45]⟩ : ByteArray)) ++ t261).size + 1 ≤ 9223372036854775807 then ((impl_twoDigits.f x260002).bind fun t262 => (if (((t260 ++ (⟨#[45]⟩ : ByteArray)) ++ t261) ++ (⟨#[45]⟩ : ByteArray)).size + t262.size ≤ 9223372036854775807 then (some ((((t260 ++ (⟨#[45]⟩ : ByteArray)) ++ t261) ++ (⟨#[45]⟩ : ByteArray)) ++ t262)) else (none))) else (none)) else (none))) else (none)))

def impl_DateText.f (k : Nat) (a0_0 : Int) (a0_1 : Int) (a0_2 : Int) : Option (ByteArray) := if a0_0 < (-5000) then (impl_DateText.j0 k true a0_0 a0_1 a0_2) else (if a0_0 > 9999 then (impl_DateText.j0 k true a0_0 a0_1 a0_2) else (if a0_1 < 1 then (impl_DateText.j0 k true a0_0 a0_1 a0_2) else (if a0_1 > 12 then (impl_DateText.j0 k true a0_0 a0_1 a0_2) else (if a0_2 < 1 then (impl_DateText.j0 k true a0_0 a0_1 a0_2) else (impl_DateText.j0 k (decide (a0_2 > 31)) a0_0 a0_1 a0_2)))))

def impl_DateText.T3 : Bool × List (List Nat × List Nat) := (true, [([], []), ([0], [0]), ([1], [1]), ([2], [2]), ([], []), ([4], [4]), ([5, 2], [5]), ([3, 6], [3, 6]), ([7], [7]), ([], []), ([9], [9]), ([10, 6], [10]), ([8, 11], [8, 11]), ([12, 11, 0, 1, 2, 3, 4, 5, 6, 7, 8, 9, 10, 11, 12], [12])])

def impl_DateText.B3 : List Nat := [0, 1, 3, 7, 0, 16, 55, 127, 255, 0, 512, 1655, 4095, 8191]

theorem impl_DateText.tab3 : rtab .any (opsOf Tryd.f25 3) = impl_DateText.T3 := by kernel_rfl

theorem impl_DateText.bits3 : waitsOk impl_DateText.T3.2 impl_DateText.B3 = true := by kernel_rfl

end Go.Proofs.YtffamggcjijobaaDoor.PFnDays
