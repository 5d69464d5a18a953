/- Functions of the program as Lean functions, and proofs that the Go code comes to their answers: for the law FnExactDiffer; made out of the print by a program of mine (compact.py). No conditions but each theorem's own. -/
import Derived.Test.YtojfkjggpdlngaaMFnExactDiffera0
import Derived.Test.YtojfkjggpdlngaaMFnExactDiffera2
import Derived.Test.YtojfkjggpdlngaaMFnExactDiffera3
namespace Go.Proofs.Ytojfkjggpdlngaa.PFnExactDiffer
open List (map_toArray map_cons map_nil length_drop length_take set_cons_zero set_cons_succ setIfInBounds_toArray)
open Go.RowKit Go.Proofs.YtojfkjggpdlngaaW.PrintWords Go.Proofs.YtojfkjggpdlngaaW.PrintLast Go.Proofs.YtojfkjggpdlngaaW.PrintMore
attribute [local go_sem] max2_int min2_int max_two min_two max_three min_three max_four min_four   -- for this text's walks alone
set_option linter.unusedVariables false
set_option linter.unusedSimpArgs false

attribute [local go_sem high] eqA107
set_option maxHeartbeats 100000000 in
set_option maxRecDepth 100000 in
theorem impl_Differ.calls_p1 (k : Nat) (A0 : Option Addr) (c0 : Nat) (l0 : List (S107)) (A1 : Option Addr) (c1 : Nat) (l1 : List (S107)) (r : List (S107)) (w : World) (hr0 : Kd.C k107 w A0 l0.length l0) (hc0 : l0.length ≤ c0) (hr1 : Kd.C k107 w A1 l1.length l1) (hc1 : l1.length ≤ c1) (H : ((impl_rising.f k l0).bind fun t171 => (if t171 = true then ((impl_rising.f k l1).bind fun t172 => (impl_Differ.j0 k l0 l1 (!t172))) else (impl_Differ.j0 k l0 l1 true))) = some r) :
  Calls Try.prog 34 #[.slice A0 l0.length c0, .slice A1 l1.length c1] w fun e w' => ∃ v0_ : Value, e = .returned (v0_) ∧ Kd.R k107 107 w' w.heap.size (fun _ => True) v0_ r ∧ Below w.heap.size w w' := by
 have hu75 := Try.underlying75
 have hu107 := Try.underlying107
 have HR0 := Aside0.mk hr0
 have HC0 := Aside0.mk hc0
 clear hr0 hc0
 have HR1 := Aside0.mk hr1
 have HC1 := Aside0.mk hc1
 clear hr1 hc1
 have HB := Aside0.mk (Below.refl w.heap.size w)
 have HC3 := Aside0.mk H
 clear H
 go_enter Try.func34, Try.ntmps34
 go_upto_region 1 with (fail)
 go_cut [16] (fun v16 wc => ∃ (kq : Nat) (x16_2 : Bool), v16 = .bool x16_2 ∧ Aside0 (impl_Differ.j0 kq l0 l1 x16_2 = some r) ∧ Aside0 (kq ≤ k) ∧ Aside0 (Below w.heap.size w wc))
 case first =>
  have H := HC3.out
  clear HC3
  replace H := Option.bind_eq_some_iff.mp H
  obtain ⟨t171, A40, H⟩ := H
  replace H : (if t171 = true then ((impl_rising.f k l1).bind fun t172 => (impl_Differ.j0 k l0 l1 (!t172))) else (impl_Differ.j0 k l0 l1 true)) = some r := H
  have A4 := Aside0.mk A40
  clear A40
  by_cases c5 : t171 = true
  ·subst c5
   have H1 : ((impl_rising.f k l1).bind fun t172 => (impl_Differ.j0 k l0 l1 (!t172))) = some r := by rw [if_pos rfl] at H; exact H
   clear H
   have H := H1
   clear H1
   replace H := Option.bind_eq_some_iff.mp H
   obtain ⟨t172, A60, H⟩ := H
   replace H : (impl_Differ.j0 k l0 l1 (!t172)) = some r := H
   have A6 := Aside0.mk A60
   clear A60
   have H' := Aside0.mk H
   clear H
   go_wp2_with (first | ((with_reducible refine z9q (f := 71) rfl ?_); refine z15q (some 10) rfl rfl Try.func71 (by kernel_rfl) rfl #[.slice A0 l0.length c0] rfl (by (try simp only [map_toArray, map_cons, map_nil]); first | done | rfl | (simp only [length_drop, length_take]; rfl)) ?_; (with_reducible refine (impl_rising.calls k _ _ l0 true _ ?side1 ?side2 A4.out).mono ?_); (case side1 => exact Kd.C_below HR0.out ib); (case side2 => exact HC0.out); rintro e w7 ⟨rfl, hb⟩; refine ⟨_, rfl, ?_⟩; have n0_ := Aside0.mk (z6q (ibh HB.out) hb); clear HB; have HB := n0_; clear n0_; (try clear hb); (try clear hb2); (try clear hk); (try clear hi)) | (go_at_call 71; (with_reducible refine (impl_rising.calls k _ _ l1 t172 _ ?side1 ?side2 A6.out).mono ?_); (case side1 => exact Kd.C_below HR1.out ib); (case side2 => exact HC1.out); rintro e w8 ⟨rfl, hb⟩; have n0_ := Aside0.mk (z6q (ibh HB.out) hb); clear HB; have HB := n0_; clear n0_; (try clear hb); (try clear hb2); (try clear hk); (try clear hi)))
   go_meet
   case rel => exact ⟨_, (!t172), (by first | rfl | (simp; done) | (simp [*]; done) | (simp; unfold wrap64; omega)), H', ⟨by first | omega | exact Nat.le_refl _⟩, ⟨by repeat (first | (with_reducible first | exact HB.out | apply z7q | apply z3q | apply z4q) | exact HB.out)⟩⟩
  ·replace c5 := Bool.eq_false_iff.mpr c5
   subst c5
   have H1 : (impl_Differ.j0 k l0 l1 true) = some r := by rw [if_neg (show ¬ (false = true) by decide)] at H; exact H
   clear H
   have H := H1
   clear H1
   have H' := Aside0.mk H
   clear H
   go_wp2_with (first | ((with_reducible refine z9q (f := 71) rfl ?_); refine z15q (some 10) rfl rfl Try.func71 (by kernel_rfl) rfl #[.slice A0 l0.length c0] rfl (by (try simp only [map_toArray, map_cons, map_nil]); first | done | rfl | (simp only [length_drop, length_take]; rfl)) ?_; (with_reducible refine (impl_rising.calls k _ _ l0 false _ ?side1 ?side2 A4.out).mono ?_); (case side1 => exact Kd.C_below HR0.out ib); (case side2 => exact HC0.out); rintro e w9 ⟨rfl, hb⟩; refine ⟨_, rfl, ?_⟩; have n0_ := Aside0.mk (z6q (ibh HB.out) hb); clear HB; have HB := n0_; clear n0_; (try clear hb); (try clear hb2); (try clear hk); (try clear hi)))
   go_meet
   case rel => exact ⟨_, (true), (by first | rfl | (simp; done) | (simp [*]; done) | (simp; unfold wrap64; omega)), H', ⟨by first | omega | exact Nat.le_refl _⟩, ⟨by repeat (first | (with_reducible first | exact HB.out | apply z7q | apply z3q | apply z4q) | exact HB.out)⟩⟩
 case rest =>
  clear HC3
  try clear c1
  try clear p2
  try clear c3
  try clear c5
  try clear c7
  obtain ⟨kq, x16_2, rfl, HA, HJ2, HB⟩ := hcut
  cases kq with
  | zero => exact absurd HA.out (by simp [impl_Differ.j0])
  | succ kj2 =>
   have H := HA.out
   clear HA
   simp only [impl_Differ.j0] at H
   by_cases c10 : x16_2 = true
   ·subst c10
    have H1 : (some ([] : List (S107))) = some r := by rw [if_pos rfl] at H; exact H
    clear H
    have H := H1
    clear H1
    obtain rfl := Option.some.inj H
    go_wp2
    go_ret
    exact ⟨_, by first | rfl | (simp [errW_none, errW_some] <;> rfl) | (simp [*, errW_none, errW_some] <;> rfl), by first | exact Kd.R_nil _ _ _ _ _ | exact Kd.N_nil _ _ _ _ _ | exact Kd.V_nil _ _ _ _ _ | exact Kd.Q_nil _ _ _ _ _ | exact Kd.S_nil _ _ _ _ _, by repeat (first | (with_reducible first | exact HB.out | apply z7q | apply z3q | apply z4q) | exact HB.out)⟩
   ·replace c10 := Bool.eq_false_iff.mpr c10
    subst c10
    have H1 : (impl_Differ.l0 kj2 l0 l1 (([] : List (S107))) 0 0) = some r := by rw [if_neg (show ¬ (false = true) by decide)] at H; exact H
    clear H
    have H := H1
    clear H1
    obtain ⟨y173, hy173⟩ : ∃ y_ : List (S107), y_ = (([] : List (S107))) := ⟨_, rfl⟩
    replace H : (impl_Differ.l0 kj2 l0 l1 y173 0 0) = some r := by first | (rw [hy173]; with_reducible exact H) | (have H2_ := (Option.bind_some _ _).symm.trans H; rw [hy173]; with_reducible exact H2_) | (have H2_ := (Option.bind_some _ _).symm.trans H; with_reducible exact H2_) | with_reducible exact H | (rw [hy173]; exact H) | exact H
    have Ny173 := Aside0.mk hy173
    clear hy173
    have H' := Aside0.mk H
    clear H
    go_wp2_with (first | ((with_reducible refine z17q (N := 17) rfl ?_); (try (refine gate_guard (by rfl) ?_; dsimp only)); refine Kd.R_lit k107 _ 107 ?hg (N := 17) ?hd (xs := ([] : List (S107))) (inner := []) (ok := fun _ => True) (okp := fun _ => True) ?hr ?hp (fun _ hk => hk) trivial (Below.refl _ _) (Nat.le_refl _) (by simp) ?_; (case hd => rfl); (case hg => rfl); (case hr => first | (go_simp; done) | (go_simp; rfl)); (case hp => exact (Reps.none _ _)); intro v174 w11 ho12 hb hg_ hnew_; clear hg_ hnew_; (first | rw [← Ny173.out] at ho12 | (simp only [Int.reduceToNat] at ho12; rw [← Ny173.out] at ho12)); have n0_ := Aside0.mk (Kd.R_lower ho12 (z5q (ibh HB.out))); have n1_ := Aside0.mk (z6q (ibh HB.out) hb); clear HB; have HO175 := n0_; have HB := n1_; clear n0_ n1_; clear hb ho12))
    go_loopg [5, 6, 7] kj2 (fun kq v5 v6 v7 w' => ∃ (x5_2 : List (S107)) (x6_2 : Int) (x7_2 : Int), v6 = .int .i64 x6_2 ∧ v7 = .int .i64 x7_2 ∧ Aside0 (impl_Differ.l0 kq l0 l1 x5_2 x6_2 x7_2 = some r) ∧ Aside0 (kq ≤ kj2) ∧ Aside0 (Kd.R k107 107 w' w.heap.size (fun _ => True) v5 x5_2) ∧ Aside0 (Below w.heap.size w w'))
    case atStart => exact ⟨(y173), (0), (0), (by first | rfl | (simp; done) | (simp [*]; done) | (simp; unfold wrap64; omega)), (by first | rfl | (simp; done) | (simp [*]; done) | (simp; unfold wrap64; omega)), H', ⟨Nat.le_refl _⟩, ⟨by (with_reducible repeat (first | apply Kd.R_alloc | apply Kd.R_drewN | apply Kd.R_drew)); exact HO175.out⟩, ⟨by repeat (first | (with_reducible first | exact HB.out | apply z7q | apply z3q | apply z4q) | exact HB.out)⟩⟩
    case round =>
     clear H'
     try clear c1
     try clear p2
     try clear c3
     try clear c5
     try clear c7
     try clear c10
     try clear p2
     obtain ⟨x5_2, x6_2, x7_2, rfl, rfl, HA, HK2, HO_5, HB⟩ := hrel
     cases gk with
     | zero => exact absurd HA.out (by simp [impl_Differ.l0])
     | succ k2 =>
      have H := HA.out
      clear HA
      simp only [impl_Differ.l0] at H
      have HC13 := Aside0.mk H
      clear H
      go_upto_region 6 with (fail)
      go_cut [27] (fun v27 wc => ∃ (kq : Nat) (x27_12 : Bool), v27 = .bool x27_12 ∧ Aside0 (impl_Differ.j2 kq l0 l1 x5_2 x6_2 x7_2 x27_12 = some r) ∧ Aside0 (kq ≤ k2) ∧ Aside0 (Kd.R k107 107 wc w.heap.size (fun _ => True) u5 x5_2) ∧ Aside0 (Below w.heap.size w wc))
      case first =>
       have H := HC13.out
       clear HC13
       by_cases c14 : x6_2 < (l0.length : Int)
       ·rw [if_pos c14] at H
        have c14b0 : decide (x6_2 < (l0.length : Int)) = true := decide_eq_true c14
        clear c14
        (first | rw [c14b0] | (simp only [i64_w, i32_w]; rw [c14b0]) | skip)
        have H' := Aside0.mk H
        clear H
        go_wp2
        go_meet
        case rel => exact ⟨_, (true), (by first | rfl | (simp; done) | (simp [*]; done) | (simp; unfold wrap64; omega)), H', ⟨by have := HJ2.out; have := HK2.out; first | omega | exact Nat.le_refl _⟩, ⟨by (with_reducible repeat (first | apply Kd.R_alloc | apply Kd.R_drewN | apply Kd.R_drew)); exact HO_5.out⟩, ⟨by repeat (first | (with_reducible first | exact HB.out | apply z7q | apply z3q | apply z4q) | exact HB.out)⟩⟩
       ·rw [if_neg c14] at H
        have c14b0 : decide (x6_2 < (l0.length : Int)) = false := decide_eq_false c14
        clear c14
        (first | rw [c14b0] | (simp only [i64_w, i32_w]; rw [c14b0]) | skip)
        have H' := Aside0.mk H
        clear H
        go_wp2
        go_meet
        case rel => exact ⟨_, (decide (x7_2 < (l1.length : Int))), (by first | rfl | (simp; done) | (simp [*]; done) | (simp; unfold wrap64; omega)), H', ⟨by have := HJ2.out; have := HK2.out; first | omega | exact Nat.le_refl _⟩, ⟨by (with_reducible repeat (first | apply Kd.R_alloc | apply Kd.R_drewN | apply Kd.R_drew)); exact HO_5.out⟩, ⟨by repeat (first | (with_reducible first | exact HB.out | apply z7q | apply z3q | apply z4q) | exact HB.out)⟩⟩
      case rest =>
       clear HC13
       try clear c1
       try clear p2
       try clear c3
       try clear c5
       try clear c7
       try clear c10
       try clear c14
       try clear c14b0
       try clear p2
       obtain ⟨kq, x27_12, rfl, HA, HJ12, HO_5, HB⟩ := hcut
       cases kq with
       | zero => exact absurd HA.out (by simp [impl_Differ.j2])
       | succ kj12 =>
        have H := HA.out
        clear HA
        simp only [impl_Differ.j2] at H
        by_cases c15 : x27_12 = true
        ·subst c15
         have H1 : (if x7_2 = (l1.length : Int) then (impl_Differ.j3 kj12 l0 l1 x5_2 x6_2 x7_2 true) else (if x6_2 < (l0.length : Int) then (if 0 ≤ x6_2 then (if 0 ≤ x7_2 then (if x7_2 < (l1.length : Int) then ((impl_place_before.f ((rd_T107 l0 x6_2).f0) ((rd_T107 l0 x6_2).f1) ((rd_T107 l1 x7_2).f0) ((rd_T107 l1 x7_2).f1)).bind fun t180 => (impl_Differ.j3 kj12 l0 l1 x5_2 x6_2 x7_2 t180)) else (none)) else (none)) else (none)) else (impl_Differ.j3 kj12 l0 l1 x5_2 x6_2 x7_2 false))) = some r := by rw [if_pos rfl] at H; exact H
         clear H
         have H := H1
         clear H1
         have HC16 := Aside0.mk H
         clear H
         go_upto_region 11 with (fail)
         go_cut [48] (fun v48 wc => ∃ (kq : Nat) (x48_15 : Bool), v48 = .bool x48_15 ∧ Aside0 (impl_Differ.j3 kq l0 l1 x5_2 x6_2 x7_2 x48_15 = some r) ∧ Aside0 (kq ≤ kj12) ∧ Aside0 (Kd.R k107 107 wc w.heap.size (fun _ => True) u5 x5_2) ∧ Aside0 (Below w.heap.size w wc))
         case first =>
          have H := HC16.out
          clear HC16
          by_cases c17 : x7_2 = (l1.length : Int)
          ·as_aux_lemma =>
           rw [if_pos c17] at H
           have c17b0 : (x7_2 == (l1.length : Int)) = true := beq_iff_eq.mpr c17
           have c17b1 : (x7_2 != (l1.length : Int)) = false := bne_eq_false_iff_eq.mpr c17
           clear c17
           (first | rw [c17b0] | (simp only [i64_w, i32_w]; rw [c17b0]) | skip)
           have H' := Aside0.mk H
           clear H
           try go_wp2
           have n0_ := Aside0.mk (Kd.R_drew HO_5.out)
           have n1_ := Aside0.mk (z4q HB.out)
           clear HO_5
           clear HB
           have HO_5 := n0_
           have HB := n1_
           clear n0_ n1_
           refine start_ (n := 36) (S := fun w' => True) (ds := []) bt4_0 (by kernel_rfl) rfl rfl trivial (fun hHeld => ?_); refine with_tabW impl_Differ.tab11 impl_Differ.bits11 (fun HT_ HW_ => ?_)
           generalize wc.drew = w18 at HO_5 HB hHeld ⊢
           refine pure_ (i := 0) (N := some 49) (v := ?_) (a' := ?_) bt4_1 rfl rfl (z8q HT_.out (by kernel_rfl)) (fun _ _ _ h => h) (Or.inl ⟨by rfl, ?_⟩) ?_ ?_
           rotate_left
           ·intro w'
            go_simp
            with_reducible rfl
           rotate_left
           ·simp only [Act.put, setIfInBounds_toArray, set_cons_zero, set_cons_succ, i64_w, i32_w]
            rfl
           refine pure_ (i := 1) (N := some 50) (v := ?_) (a' := ?_) bt4_2 rfl rfl (z8q HT_.out (by kernel_rfl)) (fun _ _ _ h => h) (Or.inl ⟨by rfl, ?_⟩) ?_ ?_
           rotate_left
           ·intro w'
            go_simp
            with_reducible rfl
           rotate_left
           ·simp only [Act.put, setIfInBounds_toArray, set_cons_zero, set_cons_succ, i64_w, i32_w]
            rfl
           refine pure_ (i := 2) (N := some 51) (v := ?_) (a' := ?_) bt4_3 rfl rfl (z8q HT_.out (by kernel_rfl)) (fun _ _ _ h => h) (Or.inl ⟨by rfl, ?_⟩) ?_ ?_
           rotate_left
           ·intro w'
            go_simp
            with_reducible rfl
           rotate_left
           ·simp only [Act.put, setIfInBounds_toArray, set_cons_zero, set_cons_succ, i64_w, i32_w]
            rfl
           refine pure_ (i := 3) (N := some 52) (v := ?_) (a' := ?_) bt4_4 rfl rfl (z8q HT_.out (by kernel_rfl)) (fun _ _ _ h => h) (Or.inl ⟨by rfl, ?_⟩) ?_ ?_
           rotate_left
           ·intro w'
            go_simp
            with_reducible rfl
           rotate_left
           ·simp only [Act.put, setIfInBounds_toArray, set_cons_zero, set_cons_succ, i64_w, i32_w]
            rfl
           refine pure_ (i := 4) (N := some 53) (v := ?_) (a' := ?_) bt4_5 rfl rfl (z8q HT_.out (by kernel_rfl)) (fun _ _ _ h => h) (Or.inl ⟨by rfl, ?_⟩) ?_ ?_
           rotate_left
           ·intro w'
            go_simp
            with_reducible rfl
           rotate_left
           ·simp only [Act.put, setIfInBounds_toArray, set_cons_zero, set_cons_succ, i64_w, i32_w]
            rfl
           refine pure_ (i := 5) (N := some 54) (v := undef) (a' := ?_) bt4_6 rfl rfl (z8q HT_.out (by kernel_rfl)) (fun _ _ _ h => h) (Or.inr ⟨by rfl, rfl⟩) ?_ ?_
           rotate_left
           ·simp only [Act.put, setIfInBounds_toArray, set_cons_zero, set_cons_succ, i64_w, i32_w]
            rfl
           refine pure_ (i := 6) (N := some 55) (v := undef) (a' := ?_) bt4_7 rfl rfl (z8q HT_.out (by kernel_rfl)) (fun _ _ _ h => h) (Or.inr ⟨by rfl, rfl⟩) ?_ ?_
           rotate_left
           ·simp only [Act.put, setIfInBounds_toArray, set_cons_zero, set_cons_succ, i64_w, i32_w]
            rfl
           refine pure_ (i := 7) (N := some 56) (v := undef) (a' := ?_) bt4_8 rfl rfl (z8q HT_.out (by kernel_rfl)) (fun _ _ _ h => h) (Or.inr ⟨by rfl, rfl⟩) ?_ ?_
           rotate_left
           ·simp only [Act.put, setIfInBounds_toArray, set_cons_zero, set_cons_succ, i64_w, i32_w]
            rfl
           refine pure_ (i := 8) (N := some 57) (v := undef) (a' := ?_) bt4_9 rfl rfl (z8q HT_.out (by kernel_rfl)) (fun _ _ _ h => h) (Or.inr ⟨by rfl, rfl⟩) ?_ ?_
           rotate_left
           ·simp only [Act.put, setIfInBounds_toArray, set_cons_zero, set_cons_succ, i64_w, i32_w]
            rfl
           refine pure_ (i := 9) (N := some 58) (v := undef) (a' := ?_) bt4_10 rfl rfl (z8q HT_.out (by kernel_rfl)) (fun _ _ _ h => h) (Or.inr ⟨by rfl, rfl⟩) ?_ ?_
           rotate_left
           ·simp only [Act.put, setIfInBounds_toArray, set_cons_zero, set_cons_succ, i64_w, i32_w]
            rfl
           refine pure_ (i := 10) (N := some 59) (v := undef) (a' := ?_) bt4_11 rfl rfl (z8q HT_.out (by kernel_rfl)) (fun _ _ _ h => h) (Or.inr ⟨by rfl, rfl⟩) ?_ ?_
           rotate_left
           ·simp only [Act.put, setIfInBounds_toArray, set_cons_zero, set_cons_succ, i64_w, i32_w]
            rfl
           refine pure_ (i := 11) (N := some 60) (v := undef) (a' := ?_) bt4_12 rfl rfl (z8q HT_.out (by kernel_rfl)) (fun _ _ _ h => h) (Or.inr ⟨by rfl, rfl⟩) ?_ ?_
           rotate_left
           ·simp only [Act.put, setIfInBounds_toArray, set_cons_zero, set_cons_succ, i64_w, i32_w]
            rfl
           refine pure_ (i := 12) (N := some 61) (v := undef) (a' := ?_) bt4_13 rfl rfl (z8q HT_.out (by kernel_rfl)) (fun _ _ _ h => h) (Or.inr ⟨by rfl, rfl⟩) ?_ ?_
           rotate_left
           ·simp only [Act.put, setIfInBounds_toArray, set_cons_zero, set_cons_succ, i64_w, i32_w]
            rfl
           refine pure_ (i := 13) (N := some 62) (v := undef) (a' := ?_) bt4_14 rfl rfl (z8q HT_.out (by kernel_rfl)) (fun _ _ _ h => h) (Or.inr ⟨by rfl, rfl⟩) ?_ ?_
           rotate_left
           ·simp only [Act.put, setIfInBounds_toArray, set_cons_zero, set_cons_succ, i64_w, i32_w]
            rfl
           refine pure_ (i := 14) (N := some 63) (v := undef) (a' := ?_) bt4_15 rfl rfl (z8q HT_.out (by kernel_rfl)) (fun _ _ _ h => h) (Or.inr ⟨by rfl, rfl⟩) ?_ ?_
           rotate_left
           ·simp only [Act.put, setIfInBounds_toArray, set_cons_zero, set_cons_succ, i64_w, i32_w]
            rfl
           refine pure_ (i := 15) (N := some 64) (v := undef) (a' := ?_) bt4_16 rfl rfl (z8q HT_.out (by kernel_rfl)) (fun _ _ _ h => h) (Or.inr ⟨by rfl, rfl⟩) ?_ ?_
           rotate_left
           ·simp only [Act.put, setIfInBounds_toArray, set_cons_zero, set_cons_succ, i64_w, i32_w]
            rfl
           refine pure_ (i := 16) (N := some 65) (v := undef) (a' := ?_) bt4_17 rfl rfl (z8q HT_.out (by kernel_rfl)) (fun _ _ _ h => h) (Or.inr ⟨by rfl, rfl⟩) ?_ ?_
           rotate_left
           ·simp only [Act.put, setIfInBounds_toArray, set_cons_zero, set_cons_succ, i64_w, i32_w]
            rfl
           refine pure_ (i := 17) (N := some 66) (v := undef) (a' := ?_) bt4_18 rfl rfl (z8q HT_.out (by kernel_rfl)) (fun _ _ _ h => h) (Or.inr ⟨by rfl, rfl⟩) ?_ ?_
           rotate_left
           ·simp only [Act.put, setIfInBounds_toArray, set_cons_zero, set_cons_succ, i64_w, i32_w]
            rfl
           refine pure_ (i := 18) (N := some 67) (v := undef) (a' := ?_) bt4_19 rfl rfl (z8q HT_.out (by kernel_rfl)) (fun _ _ _ h => h) (Or.inr ⟨by rfl, rfl⟩) ?_ ?_
           rotate_left
           ·simp only [Act.put, setIfInBounds_toArray, set_cons_zero, set_cons_succ, i64_w, i32_w]
            rfl
           refine pure_ (i := 19) (N := some 68) (v := undef) (a' := ?_) bt4_20 rfl rfl (z8q HT_.out (by kernel_rfl)) (fun _ _ _ h => h) (Or.inr ⟨by rfl, rfl⟩) ?_ ?_
           rotate_left
           ·simp only [Act.put, setIfInBounds_toArray, set_cons_zero, set_cons_succ, i64_w, i32_w]
            rfl
           refine pure_ (i := 20) (N := some 69) (v := undef) (a' := ?_) bt4_21 rfl rfl (z8q HT_.out (by kernel_rfl)) (fun _ _ _ h => h) (Or.inr ⟨by rfl, rfl⟩) ?_ ?_
           rotate_left
           ·simp only [Act.put, setIfInBounds_toArray, set_cons_zero, set_cons_succ, i64_w, i32_w]
            rfl
           refine pure_ (i := 21) (N := some 70) (v := undef) (a' := ?_) bt4_22 rfl rfl (z8q HT_.out (by kernel_rfl)) (fun _ _ _ h => h) (Or.inr ⟨by rfl, rfl⟩) ?_ ?_
           rotate_left
           ·simp only [Act.put, setIfInBounds_toArray, set_cons_zero, set_cons_succ, i64_w, i32_w]
            rfl
           refine pure_ (i := 22) (N := some 71) (v := undef) (a' := ?_) bt4_23 rfl rfl (z8q HT_.out (by kernel_rfl)) (fun _ _ _ h => h) (Or.inr ⟨by rfl, rfl⟩) ?_ ?_
           rotate_left
           ·simp only [Act.put, setIfInBounds_toArray, set_cons_zero, set_cons_succ, i64_w, i32_w]
            rfl
           refine pure_ (i := 23) (N := some 72) (v := undef) (a' := ?_) bt4_24 rfl rfl (z8q HT_.out (by kernel_rfl)) (fun _ _ _ h => h) (Or.inr ⟨by rfl, rfl⟩) ?_ ?_
           rotate_left
           ·simp only [Act.put, setIfInBounds_toArray, set_cons_zero, set_cons_succ, i64_w, i32_w]
            rfl
           refine pure_ (i := 24) (N := some 73) (v := undef) (a' := ?_) bt4_25 rfl rfl (z8q HT_.out (by kernel_rfl)) (fun _ _ _ h => h) (Or.inr ⟨by rfl, rfl⟩) ?_ ?_
           rotate_left
           ·simp only [Act.put, setIfInBounds_toArray, set_cons_zero, set_cons_succ, i64_w, i32_w]
            rfl
           refine pure_ (i := 25) (N := some 74) (v := undef) (a' := ?_) bt4_26 rfl rfl (z8q HT_.out (by kernel_rfl)) (fun _ _ _ h => h) (Or.inr ⟨by rfl, rfl⟩) ?_ ?_
           rotate_left
           ·simp only [Act.put, setIfInBounds_toArray, set_cons_zero, set_cons_succ, i64_w, i32_w]
            rfl
           refine pure_ (i := 26) (N := some 75) (v := undef) (a' := ?_) bt4_27 rfl rfl (z8q HT_.out (by kernel_rfl)) (fun _ _ _ h => h) (Or.inr ⟨by rfl, rfl⟩) ?_ ?_
           rotate_left
           ·simp only [Act.put, setIfInBounds_toArray, set_cons_zero, set_cons_succ, i64_w, i32_w]
            rfl
           refine pure_ (i := 27) (N := some 76) (v := undef) (a' := ?_) bt4_28 rfl rfl (z8q HT_.out (by kernel_rfl)) (fun _ _ _ h => h) (Or.inr ⟨by rfl, rfl⟩) ?_ ?_
           rotate_left
           ·simp only [Act.put, setIfInBounds_toArray, set_cons_zero, set_cons_succ, i64_w, i32_w]
            rfl
           refine pure_ (i := 28) (N := some 77) (v := undef) (a' := ?_) bt4_29 rfl rfl (z8q HT_.out (by kernel_rfl)) (fun _ _ _ h => h) (Or.inr ⟨by rfl, rfl⟩) ?_ ?_
           rotate_left
           ·simp only [Act.put, setIfInBounds_toArray, set_cons_zero, set_cons_succ, i64_w, i32_w]
            rfl
           refine pure_ (i := 29) (N := some 78) (v := undef) (a' := ?_) bt4_30 rfl rfl (z8q HT_.out (by kernel_rfl)) (fun _ _ _ h => h) (Or.inr ⟨by rfl, rfl⟩) ?_ ?_
           rotate_left
           ·simp only [Act.put, setIfInBounds_toArray, set_cons_zero, set_cons_succ, i64_w, i32_w]
            rfl
           refine pure_ (i := 30) (N := some 79) (v := undef) (a' := ?_) bt4_31 rfl rfl (z8q HT_.out (by kernel_rfl)) (fun _ _ _ h => h) (Or.inr ⟨by rfl, rfl⟩) ?_ ?_
           rotate_left
           ·simp only [Act.put, setIfInBounds_toArray, set_cons_zero, set_cons_succ, i64_w, i32_w]
            rfl
           refine pure_ (i := 31) (N := some 80) (v := undef) (a' := ?_) bt4_32 rfl rfl (z8q HT_.out (by kernel_rfl)) (fun _ _ _ h => h) (Or.inr ⟨by rfl, rfl⟩) ?_ ?_
           rotate_left
           ·simp only [Act.put, setIfInBounds_toArray, set_cons_zero, set_cons_succ, i64_w, i32_w]
            rfl
           refine pure_ (i := 32) (N := some 81) (v := undef) (a' := ?_) bt4_33 rfl rfl (z8q HT_.out (by kernel_rfl)) (fun _ _ _ h => h) (Or.inr ⟨by rfl, rfl⟩) ?_ ?_
           rotate_left
           ·simp only [Act.put, setIfInBounds_toArray, set_cons_zero, set_cons_succ, i64_w, i32_w]
            rfl
           refine pure_ (i := 33) (N := some 82) (v := undef) (a' := ?_) bt4_34 rfl rfl (z8q HT_.out (by kernel_rfl)) (fun _ _ _ h => h) (Or.inr ⟨by rfl, rfl⟩) ?_ ?_
           rotate_left
           ·simp only [Act.put, setIfInBounds_toArray, set_cons_zero, set_cons_succ, i64_w, i32_w]
            rfl
           refine pure_ (i := 34) (N := some 83) (v := ?_) (a' := ?_) bt4_35 rfl rfl (z8q HT_.out (by kernel_rfl)) (fun _ _ _ h => h) (Or.inl ⟨by rfl, ?_⟩) ?_ ?_
           rotate_left
           ·intro w'
            go_simp
            with_reducible rfl
           rotate_left
           ·simp only [Act.put, setIfInBounds_toArray, set_cons_zero, set_cons_succ, i64_w, i32_w]
            rfl
           refine pure_ (i := 35) (N := some 48) (v := ?_) (a' := ?_) bt4_36 rfl rfl (z8q HT_.out (by kernel_rfl)) (fun _ _ _ h => h) (Or.inl ⟨by rfl, ?_⟩) ?_ ?_
           rotate_left
           ·intro w'
            go_simp
            with_reducible rfl
           rotate_left
           ·simp only [Act.put, setIfInBounds_toArray, set_cons_zero, set_cons_succ, i64_w, i32_w]
            rfl
           refine done_ (done_of HT_.out (by kernel_rfl)) ?_
           try go_wp2
           go_meet
           case rel => exact ⟨_, (true), (by first | rfl | (simp; done) | (simp [*]; done) | (simp; unfold wrap64; omega)), H', ⟨by have := HJ2.out; have := HK2.out; have := HJ12.out; first | omega | exact Nat.le_refl _⟩, ⟨by (with_reducible repeat (first | apply Kd.R_alloc | apply Kd.R_drewN | apply Kd.R_drew)); exact HO_5.out⟩, ⟨by repeat (first | (with_reducible first | exact HB.out | apply z7q | apply z3q | apply z4q) | exact HB.out)⟩⟩
          ·rw [if_neg c17] at H
           have c17b0 : (x7_2 == (l1.length : Int)) = false := beq_eq_false_iff_ne.mpr c17
           have c17b1 : (x7_2 != (l1.length : Int)) = true := bne_iff_ne.mpr c17
           (first | rw [c17b0] | (simp only [i64_w, i32_w]; rw [c17b0]) | skip)
           by_cases c19 : x6_2 < (l0.length : Int)
           ·rw [if_pos c19] at H
            have c19b0 : decide (x6_2 < (l0.length : Int)) = true := decide_eq_true c19
            clear c19
            by_cases c20 : 0 ≤ x6_2
            ·rw [if_pos c20] at H
             have c20b0 : decide (0 ≤ x6_2) = true := decide_eq_true c20
             clear c20
             by_cases c21 : 0 ≤ x7_2
             ·rw [if_pos c21] at H
              have c21b0 : decide (0 ≤ x7_2) = true := decide_eq_true c21
              clear c21
              by_cases c22 : x7_2 < (l1.length : Int)
              ·as_aux_lemma =>
               rw [if_pos c22] at H
               have c22b0 : decide (x7_2 < (l1.length : Int)) = true := decide_eq_true c22
               clear c22
               replace H := Option.bind_eq_some_iff.mp H
               obtain ⟨t180, A230, H⟩ := H
               replace H : (impl_Differ.j3 kj12 l0 l1 x5_2 x6_2 x7_2 t180) = some r := H
               have A23 := Aside0.mk A230
               clear A230
               have H' := Aside0.mk H
               clear H
               try go_wp2
               have n0_ := Aside0.mk (Kd.R_drew HO_5.out)
               have n1_ := Aside0.mk (z4q HB.out)
               clear HO_5
               clear HB
               have HO_5 := n0_
               have HB := n1_
               clear n0_ n1_
               have p176 : 0 ≤ (x6_2 : Int) := of_decide_eq_true (by first | (with_reducible assumption) | assumption)
               have q176 : x6_2 < (l0.length : Int) := of_decide_eq_true (by first | (with_reducible assumption) | assumption)
               obtain ⟨ad176, e176, hx176_0, hx176_1, hx176_2, hx176_3, hx176_4, hx176_5, hx176_6, hx176_7⟩ := at_T107 HR0.out x6_2 p176 q176
               have hw176_7 := hx176_7
               have hw176_6 := hx176_6
               have hw176_5 := hx176_5
               have hw176_4 := hx176_4
               have hw176_3 := hx176_3
               have hw176_2 := hx176_2
               have hw176_1 := hx176_1
               have hw176_0 := hx176_0
               cases e176
               replace hx176_0 := (hbc HB.out hx176_0).trans hx176_0
               replace hx176_1 := (hbc HB.out hx176_1).trans hx176_1
               replace hx176_2 := (hbc HB.out hx176_2).trans hx176_2
               replace hx176_3 := (hbc HB.out hx176_3).trans hx176_3
               replace hx176_4 := (hbc HB.out hx176_4).trans hx176_4
               replace hx176_5 := (hbc HB.out hx176_5).trans hx176_5
               replace hx176_6 := (hbc HB.out hx176_6).trans hx176_6
               replace hx176_7 := (hbc HB.out hx176_7).trans hx176_7
               replace p176 := eq_true p176
               replace q176 := eq_true q176
               have p177 : 0 ≤ (x6_2 : Int) := of_decide_eq_true (by first | (with_reducible assumption) | assumption)
               have q177 : x6_2 < (l0.length : Int) := of_decide_eq_true (by first | (with_reducible assumption) | assumption)
               obtain ⟨ad177, e177, hx177_0, hx177_1, hx177_2, hx177_3, hx177_4, hx177_5, hx177_6, hx177_7⟩ := at_T107 HR0.out x6_2 p177 q177
               have hw177_7 := hx177_7
               have hw177_6 := hx177_6
               have hw177_5 := hx177_5
               have hw177_4 := hx177_4
               have hw177_3 := hx177_3
               have hw177_2 := hx177_2
               have hw177_1 := hx177_1
               have hw177_0 := hx177_0
               obtain rfl : ad176 = ad177 := (by injection e177)
               replace hx177_0 := (hbc HB.out hx177_0).trans hx177_0
               replace hx177_1 := (hbc HB.out hx177_1).trans hx177_1
               replace hx177_2 := (hbc HB.out hx177_2).trans hx177_2
               replace hx177_3 := (hbc HB.out hx177_3).trans hx177_3
               replace hx177_4 := (hbc HB.out hx177_4).trans hx177_4
               replace hx177_5 := (hbc HB.out hx177_5).trans hx177_5
               replace hx177_6 := (hbc HB.out hx177_6).trans hx177_6
               replace hx177_7 := (hbc HB.out hx177_7).trans hx177_7
               replace p177 := eq_true p177
               replace q177 := eq_true q177
               have p178 : 0 ≤ (x7_2 : Int) := of_decide_eq_true (by first | (with_reducible assumption) | assumption)
               have q178 : x7_2 < (l1.length : Int) := of_decide_eq_true (by first | (with_reducible assumption) | assumption)
               obtain ⟨ad178, e178, hx178_0, hx178_1, hx178_2, hx178_3, hx178_4, hx178_5, hx178_6, hx178_7⟩ := at_T107 HR1.out x7_2 p178 q178
               have hw178_7 := hx178_7
               have hw178_6 := hx178_6
               have hw178_5 := hx178_5
               have hw178_4 := hx178_4
               have hw178_3 := hx178_3
               have hw178_2 := hx178_2
               have hw178_1 := hx178_1
               have hw178_0 := hx178_0
               cases e178
               replace hx178_0 := (hbc HB.out hx178_0).trans hx178_0
               replace hx178_1 := (hbc HB.out hx178_1).trans hx178_1
               replace hx178_2 := (hbc HB.out hx178_2).trans hx178_2
               replace hx178_3 := (hbc HB.out hx178_3).trans hx178_3
               replace hx178_4 := (hbc HB.out hx178_4).trans hx178_4
               replace hx178_5 := (hbc HB.out hx178_5).trans hx178_5
               replace hx178_6 := (hbc HB.out hx178_6).trans hx178_6
               replace hx178_7 := (hbc HB.out hx178_7).trans hx178_7
               replace p178 := eq_true p178
               replace q178 := eq_true q178
               have p179 : 0 ≤ (x7_2 : Int) := of_decide_eq_true (by first | (with_reducible assumption) | assumption)
               have q179 : x7_2 < (l1.length : Int) := of_decide_eq_true (by first | (with_reducible assumption) | assumption)
               obtain ⟨ad179, e179, hx179_0, hx179_1, hx179_2, hx179_3, hx179_4, hx179_5, hx179_6, hx179_7⟩ := at_T107 HR1.out x7_2 p179 q179
               have hw179_7 := hx179_7
               have hw179_6 := hx179_6
               have hw179_5 := hx179_5
               have hw179_4 := hx179_4
               have hw179_3 := hx179_3
               have hw179_2 := hx179_2
               have hw179_1 := hx179_1
               have hw179_0 := hx179_0
               obtain rfl : ad178 = ad179 := (by injection e179)
               replace hx179_0 := (hbc HB.out hx179_0).trans hx179_0
               replace hx179_1 := (hbc HB.out hx179_1).trans hx179_1
               replace hx179_2 := (hbc HB.out hx179_2).trans hx179_2
               replace hx179_3 := (hbc HB.out hx179_3).trans hx179_3
               replace hx179_4 := (hbc HB.out hx179_4).trans hx179_4
               replace hx179_5 := (hbc HB.out hx179_5).trans hx179_5
               replace hx179_6 := (hbc HB.out hx179_6).trans hx179_6
               replace hx179_7 := (hbc HB.out hx179_7).trans hx179_7
               replace p179 := eq_true p179
               replace q179 := eq_true q179
               refine start_ (n := 36) (S := fun w' => w'.cell? (ad176.add ((x6_2).toNat * 8)) = some (.int .i64 ((rd_T107 l0 x6_2).f0)) ∧ w'.cell? ⟨(ad176.add ((x6_2).toNat * 8)).block, (ad176.add ((x6_2).toNat * 8)).off + 1, none⟩ = some (.int .i64 ((rd_T107 l0 x6_2).f1)) ∧ w'.cell? ⟨(ad176.add ((x6_2).toNat * 8)).block, (ad176.add ((x6_2).toNat * 8)).off + 2, none⟩ = some (.int .i64 ((rd_T107 l0 x6_2).f2.f0)) ∧ w'.cell? ⟨(ad176.add ((x6_2).toNat * 8)).block, (ad176.add ((x6_2).toNat * 8)).off + 3, none⟩ = some (.bool ((rd_T107 l0 x6_2).f2.f1.f0)) ∧ w'.cell? ⟨(ad176.add ((x6_2).toNat * 8)).block, (ad176.add ((x6_2).toNat * 8)).off + 4, none⟩ = some (.int .i64 ((rd_T107 l0 x6_2).f2.f1.f1)) ∧ w'.cell? ⟨(ad176.add ((x6_2).toNat * 8)).block, (ad176.add ((x6_2).toNat * 8)).off + 5, none⟩ = some (.int .i64 ((rd_T107 l0 x6_2).f2.f1.f2)) ∧ w'.cell? ⟨(ad176.add ((x6_2).toNat * 8)).block, (ad176.add ((x6_2).toNat * 8)).off + 6, none⟩ = some (.string ((rd_T107 l0 x6_2).f2.f2)) ∧ w'.cell? ⟨(ad176.add ((x6_2).toNat * 8)).block, (ad176.add ((x6_2).toNat * 8)).off + 7, none⟩ = some (.bool ((rd_T107 l0 x6_2).f3)) ∧ w'.cell? (ad176.add ((x6_2).toNat * 8)) = some (.int .i64 ((rd_T107 l0 x6_2).f0)) ∧ w'.cell? ⟨(ad176.add ((x6_2).toNat * 8)).block, (ad176.add ((x6_2).toNat * 8)).off + 1, none⟩ = some (.int .i64 ((rd_T107 l0 x6_2).f1)) ∧ w'.cell? ⟨(ad176.add ((x6_2).toNat * 8)).block, (ad176.add ((x6_2).toNat * 8)).off + 2, none⟩ = some (.int .i64 ((rd_T107 l0 x6_2).f2.f0)) ∧ w'.cell? ⟨(ad176.add ((x6_2).toNat * 8)).block, (ad176.add ((x6_2).toNat * 8)).off + 3, none⟩ = some (.bool ((rd_T107 l0 x6_2).f2.f1.f0)) ∧ w'.cell? ⟨(ad176.add ((x6_2).toNat * 8)).block, (ad176.add ((x6_2).toNat * 8)).off + 4, none⟩ = some (.int .i64 ((rd_T107 l0 x6_2).f2.f1.f1)) ∧ w'.cell? ⟨(ad176.add ((x6_2).toNat * 8)).block, (ad176.add ((x6_2).toNat * 8)).off + 5, none⟩ = some (.int .i64 ((rd_T107 l0 x6_2).f2.f1.f2)) ∧ w'.cell? ⟨(ad176.add ((x6_2).toNat * 8)).block, (ad176.add ((x6_2).toNat * 8)).off + 6, none⟩ = some (.string ((rd_T107 l0 x6_2).f2.f2)) ∧ w'.cell? ⟨(ad176.add ((x6_2).toNat * 8)).block, (ad176.add ((x6_2).toNat * 8)).off + 7, none⟩ = some (.bool ((rd_T107 l0 x6_2).f3)) ∧ w'.cell? (ad178.add ((x7_2).toNat * 8)) = some (.int .i64 ((rd_T107 l1 x7_2).f0)) ∧ w'.cell? ⟨(ad178.add ((x7_2).toNat * 8)).block, (ad178.add ((x7_2).toNat * 8)).off + 1, none⟩ = some (.int .i64 ((rd_T107 l1 x7_2).f1)) ∧ w'.cell? ⟨(ad178.add ((x7_2).toNat * 8)).block, (ad178.add ((x7_2).toNat * 8)).off + 2, none⟩ = some (.int .i64 ((rd_T107 l1 x7_2).f2.f0)) ∧ w'.cell? ⟨(ad178.add ((x7_2).toNat * 8)).block, (ad178.add ((x7_2).toNat * 8)).off + 3, none⟩ = some (.bool ((rd_T107 l1 x7_2).f2.f1.f0)) ∧ w'.cell? ⟨(ad178.add ((x7_2).toNat * 8)).block, (ad178.add ((x7_2).toNat * 8)).off + 4, none⟩ = some (.int .i64 ((rd_T107 l1 x7_2).f2.f1.f1)) ∧ w'.cell? ⟨(ad178.add ((x7_2).toNat * 8)).block, (ad178.add ((x7_2).toNat * 8)).off + 5, none⟩ = some (.int .i64 ((rd_T107 l1 x7_2).f2.f1.f2)) ∧ w'.cell? ⟨(ad178.add ((x7_2).toNat * 8)).block, (ad178.add ((x7_2).toNat * 8)).off + 6, none⟩ = some (.string ((rd_T107 l1 x7_2).f2.f2)) ∧ w'.cell? ⟨(ad178.add ((x7_2).toNat * 8)).block, (ad178.add ((x7_2).toNat * 8)).off + 7, none⟩ = some (.bool ((rd_T107 l1 x7_2).f3)) ∧ w'.cell? (ad178.add ((x7_2).toNat * 8)) = some (.int .i64 ((rd_T107 l1 x7_2).f0)) ∧ w'.cell? ⟨(ad178.add ((x7_2).toNat * 8)).block, (ad178.add ((x7_2).toNat * 8)).off + 1, none⟩ = some (.int .i64 ((rd_T107 l1 x7_2).f1)) ∧ w'.cell? ⟨(ad178.add ((x7_2).toNat * 8)).block, (ad178.add ((x7_2).toNat * 8)).off + 2, none⟩ = some (.int .i64 ((rd_T107 l1 x7_2).f2.f0)) ∧ w'.cell? ⟨(ad178.add ((x7_2).toNat * 8)).block, (ad178.add ((x7_2).toNat * 8)).off + 3, none⟩ = some (.bool ((rd_T107 l1 x7_2).f2.f1.f0)) ∧ w'.cell? ⟨(ad178.add ((x7_2).toNat * 8)).block, (ad178.add ((x7_2).toNat * 8)).off + 4, none⟩ = some (.int .i64 ((rd_T107 l1 x7_2).f2.f1.f1)) ∧ w'.cell? ⟨(ad178.add ((x7_2).toNat * 8)).block, (ad178.add ((x7_2).toNat * 8)).off + 5, none⟩ = some (.int .i64 ((rd_T107 l1 x7_2).f2.f1.f2)) ∧ w'.cell? ⟨(ad178.add ((x7_2).toNat * 8)).block, (ad178.add ((x7_2).toNat * 8)).off + 6, none⟩ = some (.string ((rd_T107 l1 x7_2).f2.f2)) ∧ w'.cell? ⟨(ad178.add ((x7_2).toNat * 8)).block, (ad178.add ((x7_2).toNat * 8)).off + 7, none⟩ = some (.bool ((rd_T107 l1 x7_2).f3))) (ds := []) bt4_0 (by kernel_rfl) rfl rfl ⟨(hbt HB.out hw176_0), (hbt HB.out hw176_1), (hbt HB.out hw176_2), (hbt HB.out hw176_3), (hbt HB.out hw176_4), (hbt HB.out hw176_5), (hbt HB.out hw176_6), (hbt HB.out hw176_7), (hbt HB.out hw177_0), (hbt HB.out hw177_1), (hbt HB.out hw177_2), (hbt HB.out hw177_3), (hbt HB.out hw177_4), (hbt HB.out hw177_5), (hbt HB.out hw177_6), (hbt HB.out hw177_7), (hbt HB.out hw178_0), (hbt HB.out hw178_1), (hbt HB.out hw178_2), (hbt HB.out hw178_3), (hbt HB.out hw178_4), (hbt HB.out hw178_5), (hbt HB.out hw178_6), (hbt HB.out hw178_7), (hbt HB.out hw179_0), (hbt HB.out hw179_1), (hbt HB.out hw179_2), (hbt HB.out hw179_3), (hbt HB.out hw179_4), (hbt HB.out hw179_5), (hbt HB.out hw179_6), (hbt HB.out hw179_7)⟩ (fun hHeld => ?_); refine with_tabW impl_Differ.tab11 impl_Differ.bits11 (fun HT_ HW_ => ?_)
               generalize wc.drew = w24 at HO_5 HB hx176_0 hx176_1 hx176_2 hx176_3 hx176_4 hx176_5 hx176_6 hx176_7 hx177_0 hx177_1 hx177_2 hx177_3 hx177_4 hx177_5 hx177_6 hx177_7 hx178_0 hx178_1 hx178_2 hx178_3 hx178_4 hx178_5 hx178_6 hx178_7 hx179_0 hx179_1 hx179_2 hx179_3 hx179_4 hx179_5 hx179_6 hx179_7 hHeld ⊢
               refine pure_ (i := 0) (N := some 49) (v := ?_) (a' := ?_) bt4_1 rfl rfl (z8q HT_.out (by kernel_rfl)) (fun _ _ _ h => h) (Or.inl ⟨by rfl, ?_⟩) ?_ ?_
               rotate_left
               ·intro w'
                go_simp
                with_reducible rfl
               rotate_left
               ·simp only [Act.put, setIfInBounds_toArray, set_cons_zero, set_cons_succ, i64_w, i32_w]
                rfl
               refine pure_ (i := 1) (N := some 50) (v := ?_) (a' := ?_) bt4_2 rfl rfl (z8q HT_.out (by kernel_rfl)) (fun _ _ _ h => h) (Or.inl ⟨by rfl, ?_⟩) ?_ ?_
               rotate_left
               ·intro w'
                go_simp
                with_reducible rfl
               rotate_left
               ·simp only [Act.put, setIfInBounds_toArray, set_cons_zero, set_cons_succ, i64_w, i32_w]
                rfl
               refine pure_ (i := 2) (N := some 51) (v := ?_) (a' := ?_) bt4_3 rfl rfl (z8q HT_.out (by kernel_rfl)) (fun _ _ _ h => h) (Or.inl ⟨by rfl, ?_⟩) ?_ ?_
               rotate_left
               ·intro w'
                go_simp
                with_reducible rfl
               rotate_left
               ·simp only [Act.put, setIfInBounds_toArray, set_cons_zero, set_cons_succ, i64_w, i32_w]
                rfl
               refine pure_ (i := 3) (N := some 52) (v := ?_) (a' := ?_) bt4_4 rfl rfl (z8q HT_.out (by kernel_rfl)) (fun _ _ _ h => h) (Or.inl ⟨by rfl, ?_⟩) ?_ ?_
               rotate_left
               ·intro w'
                go_simp
                with_reducible rfl
               rotate_left
               ·simp only [Act.put, setIfInBounds_toArray, set_cons_zero, set_cons_succ, i64_w, i32_w]
                rfl
               refine pure_ (i := 4) (N := some 53) (v := ?_) (a' := ?_) bt4_5 rfl rfl (z8q HT_.out (by kernel_rfl)) (fun _ _ _ h => h) (Or.inl ⟨by rfl, ?_⟩) ?_ ?_
               rotate_left
               ·intro w'
                go_simp
                with_reducible rfl
               rotate_left
               ·simp only [Act.put, setIfInBounds_toArray, set_cons_zero, set_cons_succ, i64_w, i32_w]
                rfl
               refine pure_ (i := 5) (N := some 54) (v := ?_) (a' := ?_) bt4_6 rfl rfl (z8q HT_.out (by kernel_rfl)) (fun _ _ _ h => h) (Or.inl ⟨by rfl, ?_⟩) ?_ ?_
               rotate_left
               ·intro w'
                go_simp
                with_reducible rfl
               rotate_left
               ·simp only [Act.put, setIfInBounds_toArray, set_cons_zero, set_cons_succ, i64_w, i32_w]
                rfl
               refine pure_ (i := 6) (N := some 55) (v := ?_) (a' := ?_) bt4_7 rfl rfl (z8q HT_.out (by kernel_rfl)) (fun _ _ _ h => h) (Or.inl ⟨by rfl, ?_⟩) ?_ ?_
               rotate_left
               ·intro w'
                go_simp
                with_reducible rfl
               rotate_left
               ·simp only [Act.put, setIfInBounds_toArray, set_cons_zero, set_cons_succ, i64_w, i32_w]
                rfl
               refine pure_ (i := 7) (N := some 56) (v := ?_) (a' := ?_) bt4_8 rfl rfl (z8q HT_.out (by kernel_rfl)) (fun _ _ _ h => h) (Or.inl ⟨by rfl, ?_⟩) ?_ ?_
               rotate_left
               ·intro w'
                go_simp
                with_reducible rfl
               rotate_left
               ·simp only [Act.put, setIfInBounds_toArray, set_cons_zero, set_cons_succ, i64_w, i32_w]
                rfl
               refine pure_ (i := 8) (N := some 57) (v := ?_) (a' := ?_) bt4_9 rfl rfl (z8q HT_.out (by kernel_rfl)) (fun _ _ _ h => h) (Or.inl ⟨by rfl, ?_⟩) ?_ ?_
               rotate_left
               ·intro w'
                go_simp
                with_reducible rfl
               rotate_left
               ·simp only [Act.put, setIfInBounds_toArray, set_cons_zero, set_cons_succ, i64_w, i32_w]
                rfl
               refine pure_ (i := 9) (N := some 58) (v := ?_) (a' := ?_) bt4_10 rfl rfl (z8q HT_.out (by kernel_rfl)) (fun _ _ _ h => h) (Or.inl ⟨by rfl, ?_⟩) ?_ ?_
               rotate_left
               ·intro w'
                go_simp
                with_reducible rfl
               rotate_left
               ·simp only [Act.put, setIfInBounds_toArray, set_cons_zero, set_cons_succ, i64_w, i32_w]
                rfl
               refine pure_ (i := 10) (N := some 59) (v := ?_) (a' := ?_) bt4_11 rfl rfl (z8q HT_.out (by kernel_rfl)) (fun _ _ _ h => h) (Or.inl ⟨by rfl, ?_⟩) ?_ ?_
               rotate_left
               ·intro w'
                go_simp
                with_reducible rfl
               rotate_left
               ·simp only [Act.put, setIfInBounds_toArray, set_cons_zero, set_cons_succ, i64_w, i32_w]
                rfl
               refine pure_ (i := 11) (N := some 60) (v := ?_) (a' := ?_) bt4_12 rfl rfl (z8q HT_.out (by kernel_rfl)) (fun _ _ _ h => h) (Or.inl ⟨by rfl, ?_⟩) ?_ ?_
               rotate_left
               ·intro w'
                go_simp
                with_reducible rfl
               rotate_left
               ·simp only [Act.put, setIfInBounds_toArray, set_cons_zero, set_cons_succ, i64_w, i32_w]
                rfl
               refine pure_ (i := 12) (N := some 61) (v := ?_) (a' := ?_) bt4_13 rfl rfl (z8q HT_.out (by kernel_rfl)) (fun _ _ _ h => h) (Or.inl ⟨by rfl, ?_⟩) ?_ ?_
               rotate_left
               ·intro w'
                go_simp
                with_reducible rfl
               rotate_left
               ·simp only [Act.put, setIfInBounds_toArray, set_cons_zero, set_cons_succ, i64_w, i32_w]
                rfl
               refine pure_ (i := 13) (N := some 62) (v := ?_) (a' := ?_) bt4_14 rfl rfl (z8q HT_.out (by kernel_rfl)) (fun _ _ _ h => h) (Or.inl ⟨by rfl, ?_⟩) ?_ ?_
               rotate_left
               ·intro w'
                go_simp
                with_reducible rfl
               rotate_left
               ·simp only [Act.put, setIfInBounds_toArray, set_cons_zero, set_cons_succ, i64_w, i32_w]
                rfl
               refine pure_ (i := 15) (N := some 64) (v := ?_) (a' := ?_) bt4_37 rfl rfl (z8q HT_.out (by kernel_rfl)) (fun _ _ _ h => h) (Or.inl ⟨by rfl, ?_⟩) ?_ ?_
               rotate_left
               ·intro w'
                go_simp
                with_reducible rfl
               rotate_left
               ·simp only [Act.put, setIfInBounds_toArray, set_cons_zero, set_cons_succ, i64_w, i32_w]
                rfl
               refine pure_ (i := 16) (N := some 65) (v := ?_) (a' := ?_) bt4_38 rfl rfl (z8q HT_.out (by kernel_rfl)) (fun _ _ _ h => h) (Or.inl ⟨by rfl, ?_⟩) ?_ ?_
               rotate_left
               ·intro w'
                go_simp
                with_reducible rfl
               rotate_left
               ·simp only [Act.put, setIfInBounds_toArray, set_cons_zero, set_cons_succ, i64_w, i32_w]
                rfl
               refine pure_ (i := 17) (N := some 66) (v := ?_) (a' := ?_) bt4_39 rfl rfl (z8q HT_.out (by kernel_rfl)) (fun _ _ _ h => h) (Or.inl ⟨by rfl, ?_⟩) ?_ ?_
               rotate_left
               ·intro w'
                go_simp
                with_reducible rfl
               rotate_left
               ·simp only [Act.put, setIfInBounds_toArray, set_cons_zero, set_cons_succ, i64_w, i32_w]
                rfl
               refine pure_ (i := 18) (N := some 67) (v := ?_) (a' := ?_) bt4_40 rfl rfl (z8q HT_.out (by kernel_rfl)) (fun _ _ _ h => h) (Or.inl ⟨by rfl, ?_⟩) ?_ ?_
               rotate_left
               ·intro w'
                go_simp
                with_reducible rfl
               rotate_left
               ·simp only [Act.put, setIfInBounds_toArray, set_cons_zero, set_cons_succ, i64_w, i32_w]
                rfl
               refine pure_ (i := 21) (N := some 70) (v := ?_) (a' := ?_) bt4_41 rfl rfl (z8q HT_.out (by kernel_rfl)) (fun _ _ _ h => h) (Or.inl ⟨by rfl, ?_⟩) ?_ ?_
               rotate_left
               ·intro w'
                go_simp
                with_reducible rfl
               rotate_left
               ·simp only [Act.put, setIfInBounds_toArray, set_cons_zero, set_cons_succ, i64_w, i32_w]
                rfl
               refine pure_ (i := 22) (N := some 71) (v := ?_) (a' := ?_) bt4_42 rfl rfl (z8q HT_.out (by kernel_rfl)) (fun _ _ _ h => h) (Or.inl ⟨by rfl, ?_⟩) ?_ ?_
               rotate_left
               ·intro w'
                go_simp
                with_reducible rfl
               rotate_left
               ·simp only [Act.put, setIfInBounds_toArray, set_cons_zero, set_cons_succ, i64_w, i32_w]
                rfl
               refine pure_ (i := 23) (N := some 72) (v := ?_) (a' := ?_) bt4_43 rfl rfl (z8q HT_.out (by kernel_rfl)) (fun _ _ _ h => h) (Or.inl ⟨by rfl, ?_⟩) ?_ ?_
               rotate_left
               ·intro w'
                go_simp
                with_reducible rfl
               rotate_left
               ·simp only [Act.put, setIfInBounds_toArray, set_cons_zero, set_cons_succ, i64_w, i32_w]
                rfl
               refine pure_ (i := 24) (N := some 73) (v := ?_) (a' := ?_) bt4_44 rfl rfl (z8q HT_.out (by kernel_rfl)) (fun _ _ _ h => h) (Or.inl ⟨by rfl, ?_⟩) ?_ ?_
               rotate_left
               ·intro w'
                go_simp
                with_reducible rfl
               rotate_left
               ·simp only [Act.put, setIfInBounds_toArray, set_cons_zero, set_cons_succ, i64_w, i32_w]
                rfl
               refine pure_ (i := 26) (N := some 75) (v := ?_) (a' := ?_) bt4_45 rfl rfl (z8q HT_.out (by kernel_rfl)) (fun _ _ _ h => h) (Or.inl ⟨by rfl, ?_⟩) ?_ ?_
               rotate_left
               ·intro w'
                go_simp
                with_reducible rfl
               rotate_left
               ·simp only [Act.put, setIfInBounds_toArray, set_cons_zero, set_cons_succ, i64_w, i32_w]
                rfl
               refine pure_ (i := 27) (N := some 76) (v := ?_) (a' := ?_) bt4_46 rfl rfl (z8q HT_.out (by kernel_rfl)) (fun _ _ _ h => h) (Or.inl ⟨by rfl, ?_⟩) ?_ ?_
               rotate_left
               ·intro w'
                go_simp
                with_reducible rfl
               rotate_left
               ·simp only [Act.put, setIfInBounds_toArray, set_cons_zero, set_cons_succ, i64_w, i32_w]
                rfl
               refine pure_ (i := 28) (N := some 77) (v := ?_) (a' := ?_) bt4_47 rfl rfl (z8q HT_.out (by kernel_rfl)) (fun _ _ _ h => h) (Or.inl ⟨by rfl, ?_⟩) ?_ ?_
               rotate_left
               ·intro w'
                go_simp
                with_reducible rfl
               rotate_left
               ·simp only [Act.put, setIfInBounds_toArray, set_cons_zero, set_cons_succ, i64_w, i32_w]
                rfl
               refine pure_ (i := 29) (N := some 78) (v := ?_) (a' := ?_) bt4_48 rfl rfl (z8q HT_.out (by kernel_rfl)) (fun _ _ _ h => h) (Or.inl ⟨by rfl, ?_⟩) ?_ ?_
               rotate_left
               ·intro w'
                go_simp
                with_reducible rfl
               rotate_left
               ·simp only [Act.put, setIfInBounds_toArray, set_cons_zero, set_cons_succ, i64_w, i32_w]
                rfl
               refine take_ (i := 14) (N := some 63) (v := ?_) (a' := ?_) bt4_49 rfl rfl (z19q HT_.out HW_.out (by kernel_rfl)) (fun _ _ _ h => h) (Or.inl ⟨by rfl, ?_⟩) hHeld ?_ ?_
               rotate_left
               ·rintro w' ⟨s0, s1, s2, s3, s4, s5, s6, s7, s8, s9, s10, s11, s12, s13, s14, s15, s16, s17, s18, s19, s20, s21, s22, s23, s24, s25, s26, s27, s28, s29, s30, s31⟩
                go_simp
                with_reducible rfl
               rotate_left
               ·simp only [Act.put, setIfInBounds_toArray, set_cons_zero, set_cons_succ, i64_w, i32_w]
                rfl
               refine take_ (i := 19) (N := some 68) (v := ?_) (a' := ?_) bt4_50 rfl rfl (z19q HT_.out HW_.out (by kernel_rfl)) (fun _ _ _ h => h) (Or.inl ⟨by rfl, ?_⟩) hHeld ?_ ?_
               rotate_left
               ·rintro w' ⟨s0, s1, s2, s3, s4, s5, s6, s7, s8, s9, s10, s11, s12, s13, s14, s15, s16, s17, s18, s19, s20, s21, s22, s23, s24, s25, s26, s27, s28, s29, s30, s31⟩
                go_simp
                with_reducible rfl
               rotate_left
               ·simp only [Act.put, setIfInBounds_toArray, set_cons_zero, set_cons_succ, i64_w, i32_w]
                rfl
               refine pure_ (i := 20) (N := some 69) (v := ?_) (a' := ?_) bt4_51 rfl rfl (z8q HT_.out (by kernel_rfl)) (fun _ _ _ h => h) (Or.inl ⟨by rfl, ?_⟩) ?_ ?_
               rotate_left
               ·intro w'
                go_simp
                with_reducible rfl
               rotate_left
               ·simp only [Act.put, setIfInBounds_toArray, set_cons_zero, set_cons_succ, i64_w, i32_w]
                rfl
               refine take_ (i := 25) (N := some 74) (v := ?_) (a' := ?_) bt4_30 rfl rfl (z19q HT_.out HW_.out (by kernel_rfl)) (fun _ _ _ h => h) (Or.inl ⟨by rfl, ?_⟩) hHeld ?_ ?_
               rotate_left
               ·rintro w' ⟨s0, s1, s2, s3, s4, s5, s6, s7, s8, s9, s10, s11, s12, s13, s14, s15, s16, s17, s18, s19, s20, s21, s22, s23, s24, s25, s26, s27, s28, s29, s30, s31⟩
                go_simp
                with_reducible rfl
               rotate_left
               ·simp only [Act.put, setIfInBounds_toArray, set_cons_zero, set_cons_succ, i64_w, i32_w]
                rfl
               refine take_ (i := 30) (N := some 79) (v := ?_) (a' := ?_) bt4_31 rfl rfl (z19q HT_.out HW_.out (by kernel_rfl)) (fun _ _ _ h => h) (Or.inl ⟨by rfl, ?_⟩) hHeld ?_ ?_
               rotate_left
               ·rintro w' ⟨s0, s1, s2, s3, s4, s5, s6, s7, s8, s9, s10, s11, s12, s13, s14, s15, s16, s17, s18, s19, s20, s21, s22, s23, s24, s25, s26, s27, s28, s29, s30, s31⟩
                go_simp
                with_reducible rfl
               rotate_left
               ·simp only [Act.put, setIfInBounds_toArray, set_cons_zero, set_cons_succ, i64_w, i32_w]
                rfl
               refine pure_ (i := 31) (N := some 80) (v := ?_) (a' := ?_) bt4_32 rfl rfl (z8q HT_.out (by kernel_rfl)) (fun _ _ _ h => h) (Or.inl ⟨by rfl, ?_⟩) ?_ ?_
               rotate_left
               ·intro w'
                go_simp
                with_reducible rfl
               rotate_left
               ·simp only [Act.put, setIfInBounds_toArray, set_cons_zero, set_cons_succ, i64_w, i32_w]
                rfl
               refine one_ (i := 32) (N := some 81) bt4_33 rfl rfl (one_of HT_.out (by kernel_rfl)) (by decide) (fun K hK => ?_)
               refine goes_ Try.func72 (by kernel_rfl) rfl #[.agg #[.int .i64 ((rd_T107 l0 x6_2).f0), .int .i64 ((rd_T107 l0 x6_2).f1)], .agg #[.int .i64 ((rd_T107 l1 x7_2).f0), .int .i64 ((rd_T107 l1 x7_2).f1)]] (by rfl) rfl rfl (by (try simp only [map_toArray, map_cons, map_nil]); first | done | rfl | (simp only [length_drop, length_take]; rfl)) ?_
               with_reducible refine (impl_place_before.calls ((rd_T107 l0 x6_2).f0) ((rd_T107 l0 x6_2).f1) ((rd_T107 l1 x7_2).f0) ((rd_T107 l1 x7_2).f1) t180 _ A23.out).mono ?_
               rintro e w25 ⟨rfl, hb⟩
               refine ⟨_, rfl, ?_⟩
               have n0_ := Aside0.mk (Kd.R_below (ro HO_5.out) hb)
               have n1_ := Aside0.mk (z6q (ibh HB.out) hb)
               clear HO_5
               clear HB
               have HO_5 := n0_
               have HB := n1_
               clear n0_ n1_
               (try clear hb)
               (try clear hb2)
               (try clear hk)
               (try clear hi)
               refine hK.out _ _ ⟨(hbt HB.out hw176_0), (hbt HB.out hw176_1), (hbt HB.out hw176_2), (hbt HB.out hw176_3), (hbt HB.out hw176_4), (hbt HB.out hw176_5), (hbt HB.out hw176_6), (hbt HB.out hw176_7), (hbt HB.out hw177_0), (hbt HB.out hw177_1), (hbt HB.out hw177_2), (hbt HB.out hw177_3), (hbt HB.out hw177_4), (hbt HB.out hw177_5), (hbt HB.out hw177_6), (hbt HB.out hw177_7), (hbt HB.out hw178_0), (hbt HB.out hw178_1), (hbt HB.out hw178_2), (hbt HB.out hw178_3), (hbt HB.out hw178_4), (hbt HB.out hw178_5), (hbt HB.out hw178_6), (hbt HB.out hw178_7), (hbt HB.out hw179_0), (hbt HB.out hw179_1), (hbt HB.out hw179_2), (hbt HB.out hw179_3), (hbt HB.out hw179_4), (hbt HB.out hw179_5), (hbt HB.out hw179_6), (hbt HB.out hw179_7)⟩ (fun hHeld => ?_)
               clear hK K
               refine norm_ (a' := ?_) ?_ ?_
               rotate_left
               ·show Act.put _ (some 81) _ = _
                simp only [Act.put, setIfInBounds_toArray, set_cons_zero, set_cons_succ, i64_w, i32_w]
                rfl
               refine pure_ (i := 33) (N := some 82) (v := ?_) (a' := ?_) bt4_34 rfl rfl (z8q HT_.out (by kernel_rfl)) (fun _ _ _ h => h) (Or.inl ⟨by rfl, ?_⟩) ?_ ?_
               rotate_left
               ·intro w'
                go_simp
                with_reducible rfl
               rotate_left
               ·simp only [Act.put, setIfInBounds_toArray, set_cons_zero, set_cons_succ, i64_w, i32_w]
                rfl
               refine pure_ (i := 34) (N := some 83) (v := ?_) (a' := ?_) bt4_35 rfl rfl (z8q HT_.out (by kernel_rfl)) (fun _ _ _ h => h) (Or.inl ⟨by rfl, ?_⟩) ?_ ?_
               rotate_left
               ·intro w'
                go_simp
                with_reducible rfl
               rotate_left
               ·simp only [Act.put, setIfInBounds_toArray, set_cons_zero, set_cons_succ, i64_w, i32_w]
                rfl
               refine pure_ (i := 35) (N := some 48) (v := ?_) (a' := ?_) bt4_36 rfl rfl (z8q HT_.out (by kernel_rfl)) (fun _ _ _ h => h) (Or.inl ⟨by rfl, ?_⟩) ?_ ?_
               rotate_left
               ·intro w'
                go_simp
                with_reducible rfl
               rotate_left
               ·simp only [Act.put, setIfInBounds_toArray, set_cons_zero, set_cons_succ, i64_w, i32_w]
                rfl
               refine done_ (done_of HT_.out (by kernel_rfl)) ?_
               try go_wp2
               go_meet
               case rel => exact ⟨_, (t180), (by first | rfl | (simp; done) | (simp [*]; done) | (simp; unfold wrap64; omega)), H', ⟨by have := HJ2.out; have := HK2.out; have := HJ12.out; first | omega | exact Nat.le_refl _⟩, ⟨by (with_reducible repeat (first | apply Kd.R_alloc | apply Kd.R_drewN | apply Kd.R_drew)); exact HO_5.out⟩, ⟨by repeat (first | (with_reducible first | exact HB.out | apply z7q | apply z3q | apply z4q) | exact HB.out)⟩⟩
              ·rw [if_neg c22] at H
               exact absurd H (by simp)
             ·rw [if_neg c21] at H
              exact absurd H (by simp)
            ·rw [if_neg c20] at H
             exact absurd H (by simp)
           ·as_aux_lemma =>
            rw [if_neg c19] at H
            have c19b0 : decide (x6_2 < (l0.length : Int)) = false := decide_eq_false c19
            clear c19
            have H' := Aside0.mk H
            clear H
            try go_wp2
            have n0_ := Aside0.mk (Kd.R_drew HO_5.out)
            have n1_ := Aside0.mk (z4q HB.out)
            clear HO_5
            clear HB
            have HO_5 := n0_
            have HB := n1_
            clear n0_ n1_
            refine start_ (n := 36) (S := fun w' => True) (ds := []) bt4_0 (by kernel_rfl) rfl rfl trivial (fun hHeld => ?_); refine with_tabW impl_Differ.tab11 impl_Differ.bits11 (fun HT_ HW_ => ?_)
            generalize wc.drew = w26 at HO_5 HB hHeld ⊢
            refine pure_ (i := 0) (N := some 49) (v := ?_) (a' := ?_) bt4_1 rfl rfl (z8q HT_.out (by kernel_rfl)) (fun _ _ _ h => h) (Or.inl ⟨by rfl, ?_⟩) ?_ ?_
            rotate_left
            ·intro w'
             go_simp
             with_reducible rfl
            rotate_left
            ·simp only [Act.put, setIfInBounds_toArray, set_cons_zero, set_cons_succ, i64_w, i32_w]
             rfl
            refine pure_ (i := 1) (N := some 50) (v := ?_) (a' := ?_) bt4_2 rfl rfl (z8q HT_.out (by kernel_rfl)) (fun _ _ _ h => h) (Or.inl ⟨by rfl, ?_⟩) ?_ ?_
            rotate_left
            ·intro w'
             go_simp
             with_reducible rfl
            rotate_left
            ·simp only [Act.put, setIfInBounds_toArray, set_cons_zero, set_cons_succ, i64_w, i32_w]
             rfl
            refine pure_ (i := 2) (N := some 51) (v := ?_) (a' := ?_) bt4_3 rfl rfl (z8q HT_.out (by kernel_rfl)) (fun _ _ _ h => h) (Or.inl ⟨by rfl, ?_⟩) ?_ ?_
            rotate_left
            ·intro w'
             go_simp
             with_reducible rfl
            rotate_left
            ·simp only [Act.put, setIfInBounds_toArray, set_cons_zero, set_cons_succ, i64_w, i32_w]
             rfl
            refine pure_ (i := 3) (N := some 52) (v := ?_) (a' := ?_) bt4_4 rfl rfl (z8q HT_.out (by kernel_rfl)) (fun _ _ _ h => h) (Or.inl ⟨by rfl, ?_⟩) ?_ ?_
            rotate_left
            ·intro w'
             go_simp
             with_reducible rfl
            rotate_left
            ·simp only [Act.put, setIfInBounds_toArray, set_cons_zero, set_cons_succ, i64_w, i32_w]
             rfl
            refine pure_ (i := 4) (N := some 53) (v := ?_) (a' := ?_) bt4_5 rfl rfl (z8q HT_.out (by kernel_rfl)) (fun _ _ _ h => h) (Or.inl ⟨by rfl, ?_⟩) ?_ ?_
            rotate_left
            ·intro w'
             go_simp
             with_reducible rfl
            rotate_left
            ·simp only [Act.put, setIfInBounds_toArray, set_cons_zero, set_cons_succ, i64_w, i32_w]
             rfl
            refine pure_ (i := 5) (N := some 54) (v := ?_) (a' := ?_) bt4_6 rfl rfl (z8q HT_.out (by kernel_rfl)) (fun _ _ _ h => h) (Or.inl ⟨by rfl, ?_⟩) ?_ ?_
            rotate_left
            ·intro w'
             go_simp
             with_reducible rfl
            rotate_left
            ·simp only [Act.put, setIfInBounds_toArray, set_cons_zero, set_cons_succ, i64_w, i32_w]
             rfl
            refine pure_ (i := 6) (N := some 55) (v := ?_) (a' := ?_) bt4_7 rfl rfl (z8q HT_.out (by kernel_rfl)) (fun _ _ _ h => h) (Or.inl ⟨by rfl, ?_⟩) ?_ ?_
            rotate_left
            ·intro w'
             go_simp
             with_reducible rfl
            rotate_left
            ·simp only [Act.put, setIfInBounds_toArray, set_cons_zero, set_cons_succ, i64_w, i32_w]
             rfl
            refine pure_ (i := 7) (N := some 56) (v := ?_) (a' := ?_) bt4_8 rfl rfl (z8q HT_.out (by kernel_rfl)) (fun _ _ _ h => h) (Or.inl ⟨by rfl, ?_⟩) ?_ ?_
            rotate_left
            ·intro w'
             go_simp
             with_reducible rfl
            rotate_left
            ·simp only [Act.put, setIfInBounds_toArray, set_cons_zero, set_cons_succ, i64_w, i32_w]
             rfl
            refine pure_ (i := 8) (N := some 57) (v := ?_) (a' := ?_) bt4_9 rfl rfl (z8q HT_.out (by kernel_rfl)) (fun _ _ _ h => h) (Or.inl ⟨by rfl, ?_⟩) ?_ ?_
            rotate_left
            ·intro w'
             go_simp
             with_reducible rfl
            rotate_left
            ·simp only [Act.put, setIfInBounds_toArray, set_cons_zero, set_cons_succ, i64_w, i32_w]
             rfl
            refine pure_ (i := 9) (N := some 58) (v := ?_) (a' := ?_) bt4_10 rfl rfl (z8q HT_.out (by kernel_rfl)) (fun _ _ _ h => h) (Or.inl ⟨by rfl, ?_⟩) ?_ ?_
            rotate_left
            ·intro w'
             go_simp
             with_reducible rfl
            rotate_left
            ·simp only [Act.put, setIfInBounds_toArray, set_cons_zero, set_cons_succ, i64_w, i32_w]
             rfl
            refine pure_ (i := 10) (N := some 59) (v := undef) (a' := ?_) bt4_11 rfl rfl (z8q HT_.out (by kernel_rfl)) (fun _ _ _ h => h) (Or.inr ⟨by rfl, rfl⟩) ?_ ?_
            rotate_left
            ·simp only [Act.put, setIfInBounds_toArray, set_cons_zero, set_cons_succ, i64_w, i32_w]
             rfl
            refine pure_ (i := 11) (N := some 60) (v := undef) (a' := ?_) bt4_12 rfl rfl (z8q HT_.out (by kernel_rfl)) (fun _ _ _ h => h) (Or.inr ⟨by rfl, rfl⟩) ?_ ?_
            rotate_left
            ·simp only [Act.put, setIfInBounds_toArray, set_cons_zero, set_cons_succ, i64_w, i32_w]
             rfl
            refine pure_ (i := 12) (N := some 61) (v := undef) (a' := ?_) bt4_13 rfl rfl (z8q HT_.out (by kernel_rfl)) (fun _ _ _ h => h) (Or.inr ⟨by rfl, rfl⟩) ?_ ?_
            rotate_left
            ·simp only [Act.put, setIfInBounds_toArray, set_cons_zero, set_cons_succ, i64_w, i32_w]
             rfl
            refine pure_ (i := 13) (N := some 62) (v := undef) (a' := ?_) bt4_14 rfl rfl (z8q HT_.out (by kernel_rfl)) (fun _ _ _ h => h) (Or.inr ⟨by rfl, rfl⟩) ?_ ?_
            rotate_left
            ·simp only [Act.put, setIfInBounds_toArray, set_cons_zero, set_cons_succ, i64_w, i32_w]
             rfl
            refine pure_ (i := 14) (N := some 63) (v := undef) (a' := ?_) bt4_15 rfl rfl (z8q HT_.out (by kernel_rfl)) (fun _ _ _ h => h) (Or.inr ⟨by rfl, rfl⟩) ?_ ?_
            rotate_left
            ·simp only [Act.put, setIfInBounds_toArray, set_cons_zero, set_cons_succ, i64_w, i32_w]
             rfl
            refine pure_ (i := 15) (N := some 64) (v := undef) (a' := ?_) bt4_16 rfl rfl (z8q HT_.out (by kernel_rfl)) (fun _ _ _ h => h) (Or.inr ⟨by rfl, rfl⟩) ?_ ?_
            rotate_left
            ·simp only [Act.put, setIfInBounds_toArray, set_cons_zero, set_cons_succ, i64_w, i32_w]
             rfl
            refine pure_ (i := 16) (N := some 65) (v := undef) (a' := ?_) bt4_17 rfl rfl (z8q HT_.out (by kernel_rfl)) (fun _ _ _ h => h) (Or.inr ⟨by rfl, rfl⟩) ?_ ?_
            rotate_left
            ·simp only [Act.put, setIfInBounds_toArray, set_cons_zero, set_cons_succ, i64_w, i32_w]
             rfl
            refine pure_ (i := 17) (N := some 66) (v := undef) (a' := ?_) bt4_18 rfl rfl (z8q HT_.out (by kernel_rfl)) (fun _ _ _ h => h) (Or.inr ⟨by rfl, rfl⟩) ?_ ?_
            rotate_left
            ·simp only [Act.put, setIfInBounds_toArray, set_cons_zero, set_cons_succ, i64_w, i32_w]
             rfl
            refine pure_ (i := 18) (N := some 67) (v := undef) (a' := ?_) bt4_19 rfl rfl (z8q HT_.out (by kernel_rfl)) (fun _ _ _ h => h) (Or.inr ⟨by rfl, rfl⟩) ?_ ?_
            rotate_left
            ·simp only [Act.put, setIfInBounds_toArray, set_cons_zero, set_cons_succ, i64_w, i32_w]
             rfl
            refine pure_ (i := 19) (N := some 68) (v := undef) (a' := ?_) bt4_20 rfl rfl (z8q HT_.out (by kernel_rfl)) (fun _ _ _ h => h) (Or.inr ⟨by rfl, rfl⟩) ?_ ?_
            rotate_left
            ·simp only [Act.put, setIfInBounds_toArray, set_cons_zero, set_cons_succ, i64_w, i32_w]
             rfl
            refine pure_ (i := 20) (N := some 69) (v := undef) (a' := ?_) bt4_21 rfl rfl (z8q HT_.out (by kernel_rfl)) (fun _ _ _ h => h) (Or.inr ⟨by rfl, rfl⟩) ?_ ?_
            rotate_left
            ·simp only [Act.put, setIfInBounds_toArray, set_cons_zero, set_cons_succ, i64_w, i32_w]
             rfl
            refine pure_ (i := 21) (N := some 70) (v := undef) (a' := ?_) bt4_22 rfl rfl (z8q HT_.out (by kernel_rfl)) (fun _ _ _ h => h) (Or.inr ⟨by rfl, rfl⟩) ?_ ?_
            rotate_left
            ·simp only [Act.put, setIfInBounds_toArray, set_cons_zero, set_cons_succ, i64_w, i32_w]
             rfl
            refine pure_ (i := 22) (N := some 71) (v := undef) (a' := ?_) bt4_23 rfl rfl (z8q HT_.out (by kernel_rfl)) (fun _ _ _ h => h) (Or.inr ⟨by rfl, rfl⟩) ?_ ?_
            rotate_left
            ·simp only [Act.put, setIfInBounds_toArray, set_cons_zero, set_cons_succ, i64_w, i32_w]
             rfl
            refine pure_ (i := 23) (N := some 72) (v := undef) (a' := ?_) bt4_24 rfl rfl (z8q HT_.out (by kernel_rfl)) (fun _ _ _ h => h) (Or.inr ⟨by rfl, rfl⟩) ?_ ?_
            rotate_left
            ·simp only [Act.put, setIfInBounds_toArray, set_cons_zero, set_cons_succ, i64_w, i32_w]
             rfl
            refine pure_ (i := 24) (N := some 73) (v := undef) (a' := ?_) bt4_25 rfl rfl (z8q HT_.out (by kernel_rfl)) (fun _ _ _ h => h) (Or.inr ⟨by rfl, rfl⟩) ?_ ?_
            rotate_left
            ·simp only [Act.put, setIfInBounds_toArray, set_cons_zero, set_cons_succ, i64_w, i32_w]
             rfl
            refine pure_ (i := 25) (N := some 74) (v := undef) (a' := ?_) bt4_26 rfl rfl (z8q HT_.out (by kernel_rfl)) (fun _ _ _ h => h) (Or.inr ⟨by rfl, rfl⟩) ?_ ?_
            rotate_left
            ·simp only [Act.put, setIfInBounds_toArray, set_cons_zero, set_cons_succ, i64_w, i32_w]
             rfl
            refine pure_ (i := 26) (N := some 75) (v := undef) (a' := ?_) bt4_27 rfl rfl (z8q HT_.out (by kernel_rfl)) (fun _ _ _ h => h) (Or.inr ⟨by rfl, rfl⟩) ?_ ?_
            rotate_left
            ·simp only [Act.put, setIfInBounds_toArray, set_cons_zero, set_cons_succ, i64_w, i32_w]
             rfl
            refine pure_ (i := 27) (N := some 76) (v := undef) (a' := ?_) bt4_28 rfl rfl (z8q HT_.out (by kernel_rfl)) (fun _ _ _ h => h) (Or.inr ⟨by rfl, rfl⟩) ?_ ?_
            rotate_left
            ·simp only [Act.put, setIfInBounds_toArray, set_cons_zero, set_cons_succ, i64_w, i32_w]
             rfl
            refine pure_ (i := 28) (N := some 77) (v := undef) (a' := ?_) bt4_29 rfl rfl (z8q HT_.out (by kernel_rfl)) (fun _ _ _ h => h) (Or.inr ⟨by rfl, rfl⟩) ?_ ?_
            rotate_left
            ·simp only [Act.put, setIfInBounds_toArray, set_cons_zero, set_cons_succ, i64_w, i32_w]
             rfl
            refine pure_ (i := 29) (N := some 78) (v := undef) (a' := ?_) bt4_30 rfl rfl (z8q HT_.out (by kernel_rfl)) (fun _ _ _ h => h) (Or.inr ⟨by rfl, rfl⟩) ?_ ?_
            rotate_left
            ·simp only [Act.put, setIfInBounds_toArray, set_cons_zero, set_cons_succ, i64_w, i32_w]
             rfl
            refine pure_ (i := 30) (N := some 79) (v := undef) (a' := ?_) bt4_31 rfl rfl (z8q HT_.out (by kernel_rfl)) (fun _ _ _ h => h) (Or.inr ⟨by rfl, rfl⟩) ?_ ?_
            rotate_left
            ·simp only [Act.put, setIfInBounds_toArray, set_cons_zero, set_cons_succ, i64_w, i32_w]
             rfl
            refine pure_ (i := 31) (N := some 80) (v := undef) (a' := ?_) bt4_32 rfl rfl (z8q HT_.out (by kernel_rfl)) (fun _ _ _ h => h) (Or.inr ⟨by rfl, rfl⟩) ?_ ?_
            rotate_left
            ·simp only [Act.put, setIfInBounds_toArray, set_cons_zero, set_cons_succ, i64_w, i32_w]
             rfl
            refine pure_ (i := 32) (N := some 81) (v := undef) (a' := ?_) bt4_33 rfl rfl (z8q HT_.out (by kernel_rfl)) (fun _ _ _ h => h) (Or.inr ⟨by rfl, rfl⟩) ?_ ?_
            rotate_left
            ·simp only [Act.put, setIfInBounds_toArray, set_cons_zero, set_cons_succ, i64_w, i32_w]
             rfl
            refine pure_ (i := 33) (N := some 82) (v := ?_) (a' := ?_) bt4_34 rfl rfl (z8q HT_.out (by kernel_rfl)) (fun _ _ _ h => h) (Or.inl ⟨by rfl, ?_⟩) ?_ ?_
            rotate_left
            ·intro w'
             go_simp
             with_reducible rfl
            rotate_left
            ·simp only [Act.put, setIfInBounds_toArray, set_cons_zero, set_cons_succ, i64_w, i32_w]
             rfl
            refine pure_ (i := 34) (N := some 83) (v := ?_) (a' := ?_) bt4_35 rfl rfl (z8q HT_.out (by kernel_rfl)) (fun _ _ _ h => h) (Or.inl ⟨by rfl, ?_⟩) ?_ ?_
            rotate_left
            ·intro w'
             go_simp
             with_reducible rfl
            rotate_left
            ·simp only [Act.put, setIfInBounds_toArray, set_cons_zero, set_cons_succ, i64_w, i32_w]
             rfl
            refine pure_ (i := 35) (N := some 48) (v := ?_) (a' := ?_) bt4_36 rfl rfl (z8q HT_.out (by kernel_rfl)) (fun _ _ _ h => h) (Or.inl ⟨by rfl, ?_⟩) ?_ ?_
            rotate_left
            ·intro w'
             go_simp
             with_reducible rfl
            rotate_left
            ·simp only [Act.put, setIfInBounds_toArray, set_cons_zero, set_cons_succ, i64_w, i32_w]
             rfl
            refine done_ (done_of HT_.out (by kernel_rfl)) ?_
            try go_wp2
            go_meet
            case rel => exact ⟨_, (false), (by first | rfl | (simp; done) | (simp [*]; done) | (simp; unfold wrap64; omega)), H', ⟨by have := HJ2.out; have := HK2.out; have := HJ12.out; first | omega | exact Nat.le_refl _⟩, ⟨by (with_reducible repeat (first | apply Kd.R_alloc | apply Kd.R_drewN | apply Kd.R_drew)); exact HO_5.out⟩, ⟨by repeat (first | (with_reducible first | exact HB.out | apply z7q | apply z3q | apply z4q) | exact HB.out)⟩⟩
         case rest =>
          clear HC16
          try clear c1
          try clear p1
          try clear q1
          try clear hx1
          try clear c2
          try clear p2
          try clear c7
          try clear p17
          try clear q17
          try clear hx17
          try clear c19
          try clear c19b0
          try clear c20
          try clear c21
          try clear c22
          try clear hx176_0
          try clear hx176_1
          try clear hx176_2
          try clear hx176_3
          try clear hx176_4
          try clear hx176_5
          try clear hx176_6
          try clear hx176_7
          try clear hx177_0
          try clear hx177_1
          try clear hx177_2
          try clear hx177_3
          try clear hx177_4
          try clear hx177_5
          try clear hx177_6
          try clear hx177_7
          try clear hx178_0
          try clear hx178_1
          try clear hx178_2
          try clear hx178_3
          try clear hx178_4
          try clear hx178_5
          try clear hx178_6
          try clear hx178_7
          try clear hx179_0
          try clear hx179_1
          try clear hx179_2
          try clear hx179_3
          try clear hx179_4
          try clear hx179_5
          try clear hx179_6
          try clear hx179_7
          try clear p176
          try clear p177
          try clear p178
          try clear p179
          try clear q176
          try clear q177
          try clear q178
          try clear q179
          obtain ⟨kq, x48_15, rfl, HA, HJ15, HO_5, HB⟩ := hcut
          cases kq with
          | zero => exact absurd HA.out (by simp [impl_Differ.j3])
          | succ kj15 =>
           have H := HA.out
           clear HA
           simp only [impl_Differ.j3] at H
           by_cases c27 : x48_15 = true
           ·subst c27
            have H1 : (if 0 ≤ x6_2 then (if x6_2 < (l0.length : Int) then (if ((!(((rd_T107 l0 x6_2).f2.f0) == 0) || ((((rd_T107 l0 x6_2).f2.f1.f0) || (!(((rd_T107 l0 x6_2).f2.f1.f1) == 0) || (!(((rd_T107 l0 x6_2).f2.f1.f2) == 0)))) || (!((((rd_T107 l0 x6_2).f2.f2).toList) == ([] : List UInt8))))) || (((rd_T107 l0 x6_2).f3))) = true then (if x5_2.length < 1954687338268 then (impl_Differ.l0 kj15 l0 l1 (x5_2 ++ [(⟨(rd_T107 l0 x6_2).f0, (rd_T107 l0 x6_2).f1, (⟨0, (⟨false, 0, 0⟩ : S103), (⟨#[]⟩ : ByteArray)⟩ : S105), false⟩ : S107)]) (wrap64 (x6_2 + 1)) x7_2) else (none)) else (impl_Differ.l0 kj15 l0 l1 x5_2 (wrap64 (x6_2 + 1)) x7_2)) else (none)) else (none)) = some r := by rw [if_pos rfl] at H; exact H
            clear H
            have H := H1
            clear H1
            by_cases c28 : 0 ≤ x6_2
            ·rw [if_pos c28] at H
             have c28b0 : decide (0 ≤ x6_2) = true := decide_eq_true c28
             clear c28
             by_cases c29 : x6_2 < (l0.length : Int)
             ·rw [if_pos c29] at H
              have c29b0 : decide (x6_2 < (l0.length : Int)) = true := decide_eq_true c29
              clear c29
              by_cases c30 : ((!(((rd_T107 l0 x6_2).f2.f0) == 0) || ((((rd_T107 l0 x6_2).f2.f1.f0) || (!(((rd_T107 l0 x6_2).f2.f1.f1) == 0) || (!(((rd_T107 l0 x6_2).f2.f1.f2) == 0)))) || (!((((rd_T107 l0 x6_2).f2.f2).toList) == ([] : List UInt8))))) || (((rd_T107 l0 x6_2).f3))) = true
              ·rw [if_pos c30] at H
               have c30b0 : ((!(((rd_T107 l0 x6_2).f2.f0) == 0) || ((((rd_T107 l0 x6_2).f2.f1.f0) || (!(((rd_T107 l0 x6_2).f2.f1.f1) == 0) || (!(((rd_T107 l0 x6_2).f2.f1.f2) == 0)))) || (!((((rd_T107 l0 x6_2).f2.f2).toList) == ([] : List UInt8))))) || (((rd_T107 l0 x6_2).f3))) = true := c30
               rw [show ((((rd_T107 l0 x6_2).f2.f2).toList) == ([] : List UInt8)) = ((rd_T107 l0 x6_2).f2.f2).toList.isEmpty from by cases ((rd_T107 l0 x6_2).f2.f2).toList <;> rfl] at c30b0
               clear c30
               by_cases c31 : x5_2.length < 1954687338268
               ·skip
                rw [if_pos c31] at H
                have LMc31 := Aside0.mk c31
                clear c31
                obtain ⟨y185, hy185⟩ : ∃ y_ : List (S107), y_ = (x5_2 ++ [(⟨(rd_T107 l0 x6_2).f0, (rd_T107 l0 x6_2).f1, (⟨0, (⟨false, 0, 0⟩ : S103), (⟨#[]⟩ : ByteArray)⟩ : S105), false⟩ : S107)]) := ⟨_, rfl⟩
                replace H : (impl_Differ.l0 kj15 l0 l1 y185 (wrap64 (x6_2 + 1)) x7_2) = some r := by first | (rw [hy185]; with_reducible exact H) | (have H2_ := (Option.bind_some _ _).symm.trans H; rw [hy185]; with_reducible exact H2_) | (have H2_ := (Option.bind_some _ _).symm.trans H; with_reducible exact H2_) | with_reducible exact H | (rw [hy185]; exact H) | exact H
                have Ny185 := Aside0.mk hy185
                clear hy185
                have H' := Aside0.mk H
                clear H
                try go_wp2
                have n0_ := Aside0.mk (Kd.R_drew HO_5.out)
                have n1_ := Aside0.mk (z4q HB.out)
                clear HO_5
                clear HB
                have HO_5 := n0_
                have HB := n1_
                clear n0_ n1_
                have p181 : 0 ≤ (x6_2 : Int) := of_decide_eq_true (by first | (with_reducible assumption) | assumption)
                have q181 : x6_2 < (l0.length : Int) := of_decide_eq_true (by first | (with_reducible assumption) | assumption)
                obtain ⟨ad181, e181, hx181_0, hx181_1, hx181_2, hx181_3, hx181_4, hx181_5, hx181_6, hx181_7⟩ := at_T107 HR0.out x6_2 p181 q181
                have hw181_7 := hx181_7
                have hw181_6 := hx181_6
                have hw181_5 := hx181_5
                have hw181_4 := hx181_4
                have hw181_3 := hx181_3
                have hw181_2 := hx181_2
                have hw181_1 := hx181_1
                have hw181_0 := hx181_0
                cases e181
                replace hx181_0 := (hbc HB.out hx181_0).trans hx181_0
                replace hx181_1 := (hbc HB.out hx181_1).trans hx181_1
                replace hx181_2 := (hbc HB.out hx181_2).trans hx181_2
                replace hx181_3 := (hbc HB.out hx181_3).trans hx181_3
                replace hx181_4 := (hbc HB.out hx181_4).trans hx181_4
                replace hx181_5 := (hbc HB.out hx181_5).trans hx181_5
                replace hx181_6 := (hbc HB.out hx181_6).trans hx181_6
                replace hx181_7 := (hbc HB.out hx181_7).trans hx181_7
                replace p181 := eq_true p181
                replace q181 := eq_true q181
                have p182 : 0 ≤ (x6_2 : Int) := of_decide_eq_true (by first | (with_reducible assumption) | assumption)
                have q182 : x6_2 < (l0.length : Int) := of_decide_eq_true (by first | (with_reducible assumption) | assumption)
                obtain ⟨ad182, e182, hx182_0, hx182_1, hx182_2, hx182_3, hx182_4, hx182_5, hx182_6, hx182_7⟩ := at_T107 HR0.out x6_2 p182 q182
                have hw182_7 := hx182_7
                have hw182_6 := hx182_6
                have hw182_5 := hx182_5
                have hw182_4 := hx182_4
                have hw182_3 := hx182_3
                have hw182_2 := hx182_2
                have hw182_1 := hx182_1
                have hw182_0 := hx182_0
                obtain rfl : ad181 = ad182 := (by injection e182)
                replace hx182_0 := (hbc HB.out hx182_0).trans hx182_0
                replace hx182_1 := (hbc HB.out hx182_1).trans hx182_1
                replace hx182_2 := (hbc HB.out hx182_2).trans hx182_2
                replace hx182_3 := (hbc HB.out hx182_3).trans hx182_3
                replace hx182_4 := (hbc HB.out hx182_4).trans hx182_4
                replace hx182_5 := (hbc HB.out hx182_5).trans hx182_5
                replace hx182_6 := (hbc HB.out hx182_6).trans hx182_6
                replace hx182_7 := (hbc HB.out hx182_7).trans hx182_7
                replace p182 := eq_true p182
                replace q182 := eq_true q182
                refine start_ (n := 13) (S := fun w' => w'.cell? (ad181.add ((x6_2).toNat * 8)) = some (.int .i64 ((rd_T107 l0 x6_2).f0)) ∧ w'.cell? ⟨(ad181.add ((x6_2).toNat * 8)).block, (ad181.add ((x6_2).toNat * 8)).off + 1, none⟩ = some (.int .i64 ((rd_T107 l0 x6_2).f1)) ∧ w'.cell? ⟨(ad181.add ((x6_2).toNat * 8)).block, (ad181.add ((x6_2).toNat * 8)).off + 2, none⟩ = some (.int .i64 ((rd_T107 l0 x6_2).f2.f0)) ∧ w'.cell? ⟨(ad181.add ((x6_2).toNat * 8)).block, (ad181.add ((x6_2).toNat * 8)).off + 3, none⟩ = some (.bool ((rd_T107 l0 x6_2).f2.f1.f0)) ∧ w'.cell? ⟨(ad181.add ((x6_2).toNat * 8)).block, (ad181.add ((x6_2).toNat * 8)).off + 4, none⟩ = some (.int .i64 ((rd_T107 l0 x6_2).f2.f1.f1)) ∧ w'.cell? ⟨(ad181.add ((x6_2).toNat * 8)).block, (ad181.add ((x6_2).toNat * 8)).off + 5, none⟩ = some (.int .i64 ((rd_T107 l0 x6_2).f2.f1.f2)) ∧ w'.cell? ⟨(ad181.add ((x6_2).toNat * 8)).block, (ad181.add ((x6_2).toNat * 8)).off + 6, none⟩ = some (.string ((rd_T107 l0 x6_2).f2.f2)) ∧ w'.cell? ⟨(ad181.add ((x6_2).toNat * 8)).block, (ad181.add ((x6_2).toNat * 8)).off + 7, none⟩ = some (.bool ((rd_T107 l0 x6_2).f3)) ∧ w'.cell? (ad181.add ((x6_2).toNat * 8)) = some (.int .i64 ((rd_T107 l0 x6_2).f0)) ∧ w'.cell? ⟨(ad181.add ((x6_2).toNat * 8)).block, (ad181.add ((x6_2).toNat * 8)).off + 1, none⟩ = some (.int .i64 ((rd_T107 l0 x6_2).f1)) ∧ w'.cell? ⟨(ad181.add ((x6_2).toNat * 8)).block, (ad181.add ((x6_2).toNat * 8)).off + 2, none⟩ = some (.int .i64 ((rd_T107 l0 x6_2).f2.f0)) ∧ w'.cell? ⟨(ad181.add ((x6_2).toNat * 8)).block, (ad181.add ((x6_2).toNat * 8)).off + 3, none⟩ = some (.bool ((rd_T107 l0 x6_2).f2.f1.f0)) ∧ w'.cell? ⟨(ad181.add ((x6_2).toNat * 8)).block, (ad181.add ((x6_2).toNat * 8)).off + 4, none⟩ = some (.int .i64 ((rd_T107 l0 x6_2).f2.f1.f1)) ∧ w'.cell? ⟨(ad181.add ((x6_2).toNat * 8)).block, (ad181.add ((x6_2).toNat * 8)).off + 5, none⟩ = some (.int .i64 ((rd_T107 l0 x6_2).f2.f1.f2)) ∧ w'.cell? ⟨(ad181.add ((x6_2).toNat * 8)).block, (ad181.add ((x6_2).toNat * 8)).off + 6, none⟩ = some (.string ((rd_T107 l0 x6_2).f2.f2)) ∧ w'.cell? ⟨(ad181.add ((x6_2).toNat * 8)).block, (ad181.add ((x6_2).toNat * 8)).off + 7, none⟩ = some (.bool ((rd_T107 l0 x6_2).f3))) (ds := []) bt4_52 (by kernel_rfl) rfl rfl ⟨(hbt HB.out hw181_0), (hbt HB.out hw181_1), (hbt HB.out hw181_2), (hbt HB.out hw181_3), (hbt HB.out hw181_4), (hbt HB.out hw181_5), (hbt HB.out hw181_6), (hbt HB.out hw181_7), (hbt HB.out hw182_0), (hbt HB.out hw182_1), (hbt HB.out hw182_2), (hbt HB.out hw182_3), (hbt HB.out hw182_4), (hbt HB.out hw182_5), (hbt HB.out hw182_6), (hbt HB.out hw182_7)⟩ (fun hHeld => ?_); refine with_tabW impl_Differ.tab12 impl_Differ.bits12 (fun HT_ HW_ => ?_)
                generalize wc.drew = w32 at HO_5 HB hx181_0 hx181_1 hx181_2 hx181_3 hx181_4 hx181_5 hx181_6 hx181_7 hx182_0 hx182_1 hx182_2 hx182_3 hx182_4 hx182_5 hx182_6 hx182_7 hHeld ⊢
                refine pure_ (i := 0) (N := some 84) (v := ?_) (a' := ?_) bt4_53 rfl rfl (z8q HT_.out (by kernel_rfl)) (fun _ _ _ h => h) (Or.inl ⟨by rfl, ?_⟩) ?_ ?_
                rotate_left
                ·intro w'
                 go_simp
                 with_reducible rfl
                rotate_left
                ·simp only [Act.put, setIfInBounds_toArray, set_cons_zero, set_cons_succ, i64_w, i32_w]
                 rfl
                refine pure_ (i := 1) (N := some 85) (v := ?_) (a' := ?_) bt4_54 rfl rfl (z8q HT_.out (by kernel_rfl)) (fun _ _ _ h => h) (Or.inl ⟨by rfl, ?_⟩) ?_ ?_
                rotate_left
                ·intro w'
                 go_simp
                 with_reducible rfl
                rotate_left
                ·simp only [Act.put, setIfInBounds_toArray, set_cons_zero, set_cons_succ, i64_w, i32_w]
                 rfl
                refine pure_ (i := 2) (N := some 86) (v := ?_) (a' := ?_) bt4_55 rfl rfl (z8q HT_.out (by kernel_rfl)) (fun _ _ _ h => h) (Or.inl ⟨by rfl, ?_⟩) ?_ ?_
                rotate_left
                ·intro w'
                 go_simp
                 with_reducible rfl
                rotate_left
                ·simp only [Act.put, setIfInBounds_toArray, set_cons_zero, set_cons_succ, i64_w, i32_w]
                 rfl
                refine pure_ (i := 3) (N := some 87) (v := ?_) (a' := ?_) bt4_56 rfl rfl (z8q HT_.out (by kernel_rfl)) (fun _ _ _ h => h) (Or.inl ⟨by rfl, ?_⟩) ?_ ?_
                rotate_left
                ·intro w'
                 go_simp
                 with_reducible rfl
                rotate_left
                ·simp only [Act.put, setIfInBounds_toArray, set_cons_zero, set_cons_succ, i64_w, i32_w]
                 rfl
                refine pure_ (i := 5) (N := some 89) (v := ?_) (a' := ?_) bt4_57 rfl rfl (z8q HT_.out (by kernel_rfl)) (fun _ _ _ h => h) (Or.inl ⟨by rfl, ?_⟩) ?_ ?_
                rotate_left
                ·intro w'
                 go_simp
                 with_reducible rfl
                rotate_left
                ·simp only [Act.put, setIfInBounds_toArray, set_cons_zero, set_cons_succ, i64_w, i32_w]
                 rfl
                refine pure_ (i := 6) (N := some 90) (v := ?_) (a' := ?_) bt4_58 rfl rfl (z8q HT_.out (by kernel_rfl)) (fun _ _ _ h => h) (Or.inl ⟨by rfl, ?_⟩) ?_ ?_
                rotate_left
                ·intro w'
                 go_simp
                 with_reducible rfl
                rotate_left
                ·simp only [Act.put, setIfInBounds_toArray, set_cons_zero, set_cons_succ, i64_w, i32_w]
                 rfl
                refine pure_ (i := 7) (N := some 91) (v := ?_) (a' := ?_) bt4_59 rfl rfl (z8q HT_.out (by kernel_rfl)) (fun _ _ _ h => h) (Or.inl ⟨by rfl, ?_⟩) ?_ ?_
                rotate_left
                ·intro w'
                 go_simp
                 with_reducible rfl
                rotate_left
                ·simp only [Act.put, setIfInBounds_toArray, set_cons_zero, set_cons_succ, i64_w, i32_w]
                 rfl
                refine pure_ (i := 8) (N := some 92) (v := ?_) (a' := ?_) bt4_60 rfl rfl (z8q HT_.out (by kernel_rfl)) (fun _ _ _ h => h) (Or.inl ⟨by rfl, ?_⟩) ?_ ?_
                rotate_left
                ·intro w'
                 go_simp
                 with_reducible rfl
                rotate_left
                ·simp only [Act.put, setIfInBounds_toArray, set_cons_zero, set_cons_succ, i64_w, i32_w]
                 rfl
                refine take_ (i := 4) (N := some 88) (v := ?_) (a' := ?_) bt4_61 rfl rfl (z19q HT_.out HW_.out (by kernel_rfl)) (fun _ _ _ h => h) (Or.inl ⟨by rfl, ?_⟩) hHeld ?_ ?_
                rotate_left
                ·rintro w' ⟨s0, s1, s2, s3, s4, s5, s6, s7, s8, s9, s10, s11, s12, s13, s14, s15⟩
                 go_simp
                 with_reducible rfl
                rotate_left
                ·simp only [Act.put, setIfInBounds_toArray, set_cons_zero, set_cons_succ, i64_w, i32_w]
                 rfl
                refine take_ (i := 9) (N := some 93) (v := ?_) (a' := ?_) bt4_62 rfl rfl (z19q HT_.out HW_.out (by kernel_rfl)) (fun _ _ _ h => h) (Or.inl ⟨by rfl, ?_⟩) hHeld ?_ ?_
                rotate_left
                ·rintro w' ⟨s0, s1, s2, s3, s4, s5, s6, s7, s8, s9, s10, s11, s12, s13, s14, s15⟩
                 go_simp
                 with_reducible rfl
                rotate_left
                ·simp only [Act.put, setIfInBounds_toArray, set_cons_zero, set_cons_succ, i64_w, i32_w]
                 rfl
                refine pure_ (i := 10) (N := some 94) (v := ?_) (a' := ?_) bt4_63 rfl rfl (z8q HT_.out (by kernel_rfl)) (fun _ _ _ h => h) (Or.inl ⟨by rfl, ?_⟩) ?_ ?_
                rotate_left
                ·intro w'
                 go_simp
                 with_reducible rfl
                rotate_left
                ·simp only [Act.put, setIfInBounds_toArray, set_cons_zero, set_cons_succ, i64_w, i32_w]
                 rfl
                refine one_ (i := 11) (N := some 8) bt4_64 rfl rfl (one_of HT_.out (by kernel_rfl)) (by decide) (fun K hK => ?_)
                refine box_step ?hg (N := 8) ?hd (cs := #[.int .i64 0, .int .i64 0, .int .i64 0, .bool false, .int .i64 0, .int .i64 0, .string (⟨#[]⟩ : ByteArray), .bool false]) (t := 107) ?hr ?_; (case hd => rfl); (case hg => rfl); (case hr => first | (go_simp; done) | (go_simp; rfl))
                intro gb183 hg w33 hbox hb
                have n0_ := Aside0.mk (Kd.R_below (Kd.R_elderB (ro HO_5.out) gb183 (Nat.le_of_eq hg.symm)) hb)
                have n1_ := Aside0.mk (z6q (ibh HB.out) hb)
                have n2_ := Aside0.mk (hbox)
                have n3_ := Aside0.mk ((by rw [hg]; exact (z5q (ibh HB.out)) : w.heap.size ≤ gb183))
                have n4_ := Aside0.mk ((by rw [hg]; exact (z5q (ibh HB.out)) : w.heap.size ≤ gb183))
                clear HO_5
                clear HB
                have HO_5 := n0_
                have HB := n1_
                have BK183 := n2_
                have GW183 := n3_
                have GE183 := n4_
                clear n0_ n1_ n2_ n3_ n4_
                clear hb hbox hg
                refine hK.out _ _ ⟨(hbt HB.out hw181_0), (hbt HB.out hw181_1), (hbt HB.out hw181_2), (hbt HB.out hw181_3), (hbt HB.out hw181_4), (hbt HB.out hw181_5), (hbt HB.out hw181_6), (hbt HB.out hw181_7), (hbt HB.out hw182_0), (hbt HB.out hw182_1), (hbt HB.out hw182_2), (hbt HB.out hw182_3), (hbt HB.out hw182_4), (hbt HB.out hw182_5), (hbt HB.out hw182_6), (hbt HB.out hw182_7)⟩ (fun hHeld => ?_)
                clear hK K
                refine norm_ (a' := ?_) ?_ ?_
                rotate_left
                ·show Act.put _ (some 8) _ = _
                 simp only [Act.put, setIfInBounds_toArray, set_cons_zero, set_cons_succ, i64_w, i32_w]
                 rfl
                refine one_ (i := 12) (N := none) bt4_65 rfl rfl (one_of HT_.out (by kernel_rfl)) (by decide) (fun K hK => ?_)
                have hs34 : w33.cell? ⟨gb183, 0, none⟩ = some (.int .i64 0) := (z1q BK183.out 0).trans rfl
                have hfs34 := z0q BK183.out 0
                have hs35 : w33.cell? ⟨gb183, 1, none⟩ = some (.int .i64 0) := (z1q BK183.out 1).trans rfl
                have hfs35 := z0q BK183.out 1
                have hs36 : w33.cell? ⟨gb183, 2, none⟩ = some (.int .i64 0) := (z1q BK183.out 2).trans rfl
                have hfs36 := z0q BK183.out 2
                have hs37 : w33.cell? ⟨gb183, 3, none⟩ = some (.bool false) := (z1q BK183.out 3).trans rfl
                have hfs37 := z0q BK183.out 3
                have hs38 : w33.cell? ⟨gb183, 4, none⟩ = some (.int .i64 0) := (z1q BK183.out 4).trans rfl
                have hfs38 := z0q BK183.out 4
                have hs39 : w33.cell? ⟨gb183, 5, none⟩ = some (.int .i64 0) := (z1q BK183.out 5).trans rfl
                have hfs39 := z0q BK183.out 5
                have hs40 : w33.cell? ⟨gb183, 6, none⟩ = some (.string (⟨#[]⟩ : ByteArray)) := (z1q BK183.out 6).trans rfl
                have hfs40 := z0q BK183.out 6
                have hs41 : w33.cell? ⟨gb183, 7, none⟩ = some (.bool false) := (z1q BK183.out 7).trans rfl
                have hfs41 := z0q BK183.out 7
                refine skip_ (w1 := ?_) (by rfl) rfl ?_ ?_
                rotate_left
                ·go_simp
                 rfl
                refine hK.out _ _ ⟨((z2q (p := ⟨gb183, _, none⟩) (by exact fcn hw181_0 GW183.out) _).trans (((z2q (p := ⟨gb183, _, none⟩) (by exact fcn hw181_0 GW183.out) _).trans (((z2q (p := ⟨gb183, _, none⟩) (by exact fcn hw181_0 GW183.out) _).trans (((z2q (p := ⟨gb183, _, none⟩) (by exact fcn hw181_0 GW183.out) _).trans (((z2q (p := ⟨gb183, _, none⟩) (by exact fcn hw181_0 GW183.out) _).trans (((z2q (p := ⟨gb183, _, none⟩) (by exact fcn hw181_0 GW183.out) _).trans (((z2q (p := ⟨gb183, _, none⟩) (by exact fcn hw181_0 GW183.out) _).trans (((z2q (p := ⟨gb183, _, none⟩) (by exact fcn hw181_0 GW183.out) _).trans (hHeld.1)))))))))))))))), ((z2q (p := ⟨gb183, _, none⟩) (by exact fcn hw181_1 GW183.out) _).trans (((z2q (p := ⟨gb183, _, none⟩) (by exact fcn hw181_1 GW183.out) _).trans (((z2q (p := ⟨gb183, _, none⟩) (by exact fcn hw181_1 GW183.out) _).trans (((z2q (p := ⟨gb183, _, none⟩) (by exact fcn hw181_1 GW183.out) _).trans (((z2q (p := ⟨gb183, _, none⟩) (by exact fcn hw181_1 GW183.out) _).trans (((z2q (p := ⟨gb183, _, none⟩) (by exact fcn hw181_1 GW183.out) _).trans (((z2q (p := ⟨gb183, _, none⟩) (by exact fcn hw181_1 GW183.out) _).trans (((z2q (p := ⟨gb183, _, none⟩) (by exact fcn hw181_1 GW183.out) _).trans (hHeld.2.1)))))))))))))))), ((z2q (p := ⟨gb183, _, none⟩) (by exact fcn hw181_2 GW183.out) _).trans (((z2q (p := ⟨gb183, _, none⟩) (by exact fcn hw181_2 GW183.out) _).trans (((z2q (p := ⟨gb183, _, none⟩) (by exact fcn hw181_2 GW183.out) _).trans (((z2q (p := ⟨gb183, _, none⟩) (by exact fcn hw181_2 GW183.out) _).trans (((z2q (p := ⟨gb183, _, none⟩) (by exact fcn hw181_2 GW183.out) _).trans (((z2q (p := ⟨gb183, _, none⟩) (by exact fcn hw181_2 GW183.out) _).trans (((z2q (p := ⟨gb183, _, none⟩) (by exact fcn hw181_2 GW183.out) _).trans (((z2q (p := ⟨gb183, _, none⟩) (by exact fcn hw181_2 GW183.out) _).trans (hHeld.2.2.1)))))))))))))))), ((z2q (p := ⟨gb183, _, none⟩) (by exact fcn hw181_3 GW183.out) _).trans (((z2q (p := ⟨gb183, _, none⟩) (by exact fcn hw181_3 GW183.out) _).trans (((z2q (p := ⟨gb183, _, none⟩) (by exact fcn hw181_3 GW183.out) _).trans (((z2q (p := ⟨gb183, _, none⟩) (by exact fcn hw181_3 GW183.out) _).trans (((z2q (p := ⟨gb183, _, none⟩) (by exact fcn hw181_3 GW183.out) _).trans (((z2q (p := ⟨gb183, _, none⟩) (by exact fcn hw181_3 GW183.out) _).trans (((z2q (p := ⟨gb183, _, none⟩) (by exact fcn hw181_3 GW183.out) _).trans (((z2q (p := ⟨gb183, _, none⟩) (by exact fcn hw181_3 GW183.out) _).trans (hHeld.2.2.2.1)))))))))))))))), ((z2q (p := ⟨gb183, _, none⟩) (by exact fcn hw181_4 GW183.out) _).trans (((z2q (p := ⟨gb183, _, none⟩) (by exact fcn hw181_4 GW183.out) _).trans (((z2q (p := ⟨gb183, _, none⟩) (by exact fcn hw181_4 GW183.out) _).trans (((z2q (p := ⟨gb183, _, none⟩) (by exact fcn hw181_4 GW183.out) _).trans (((z2q (p := ⟨gb183, _, none⟩) (by exact fcn hw181_4 GW183.out) _).trans (((z2q (p := ⟨gb183, _, none⟩) (by exact fcn hw181_4 GW183.out) _).trans (((z2q (p := ⟨gb183, _, none⟩) (by exact fcn hw181_4 GW183.out) _).trans (((z2q (p := ⟨gb183, _, none⟩) (by exact fcn hw181_4 GW183.out) _).trans (hHeld.2.2.2.2.1)))))))))))))))), ((z2q (p := ⟨gb183, _, none⟩) (by exact fcn hw181_5 GW183.out) _).trans (((z2q (p := ⟨gb183, _, none⟩) (by exact fcn hw181_5 GW183.out) _).trans (((z2q (p := ⟨gb183, _, none⟩) (by exact fcn hw181_5 GW183.out) _).trans (((z2q (p := ⟨gb183, _, none⟩) (by exact fcn hw181_5 GW183.out) _).trans (((z2q (p := ⟨gb183, _, none⟩) (by exact fcn hw181_5 GW183.out) _).trans (((z2q (p := ⟨gb183, _, none⟩) (by exact fcn hw181_5 GW183.out) _).trans (((z2q (p := ⟨gb183, _, none⟩) (by exact fcn hw181_5 GW183.out) _).trans (((z2q (p := ⟨gb183, _, none⟩) (by exact fcn hw181_5 GW183.out) _).trans (hHeld.2.2.2.2.2.1)))))))))))))))), ((z2q (p := ⟨gb183, _, none⟩) (by exact fcn hw181_6 GW183.out) _).trans (((z2q (p := ⟨gb183, _, none⟩) (by exact fcn hw181_6 GW183.out) _).trans (((z2q (p := ⟨gb183, _, none⟩) (by exact fcn hw181_6 GW183.out) _).trans (((z2q (p := ⟨gb183, _, none⟩) (by exact fcn hw181_6 GW183.out) _).trans (((z2q (p := ⟨gb183, _, none⟩) (by exact fcn hw181_6 GW183.out) _).trans (((z2q (p := ⟨gb183, _, none⟩) (by exact fcn hw181_6 GW183.out) _).trans (((z2q (p := ⟨gb183, _, none⟩) (by exact fcn hw181_6 GW183.out) _).trans (((z2q (p := ⟨gb183, _, none⟩) (by exact fcn hw181_6 GW183.out) _).trans (hHeld.2.2.2.2.2.2.1)))))))))))))))), ((z2q (p := ⟨gb183, _, none⟩) (by exact fcn hw181_7 GW183.out) _).trans (((z2q (p := ⟨gb183, _, none⟩) (by exact fcn hw181_7 GW183.out) _).trans (((z2q (p := ⟨gb183, _, none⟩) (by exact fcn hw181_7 GW183.out) _).trans (((z2q (p := ⟨gb183, _, none⟩) (by exact fcn hw181_7 GW183.out) _).trans (((z2q (p := ⟨gb183, _, none⟩) (by exact fcn hw181_7 GW183.out) _).trans (((z2q (p := ⟨gb183, _, none⟩) (by exact fcn hw181_7 GW183.out) _).trans (((z2q (p := ⟨gb183, _, none⟩) (by exact fcn hw181_7 GW183.out) _).trans (((z2q (p := ⟨gb183, _, none⟩) (by exact fcn hw181_7 GW183.out) _).trans (hHeld.2.2.2.2.2.2.2.1)))))))))))))))), ((z2q (p := ⟨gb183, _, none⟩) (by exact fcn hw182_0 GW183.out) _).trans (((z2q (p := ⟨gb183, _, none⟩) (by exact fcn hw182_0 GW183.out) _).trans (((z2q (p := ⟨gb183, _, none⟩) (by exact fcn hw182_0 GW183.out) _).trans (((z2q (p := ⟨gb183, _, none⟩) (by exact fcn hw182_0 GW183.out) _).trans (((z2q (p := ⟨gb183, _, none⟩) (by exact fcn hw182_0 GW183.out) _).trans (((z2q (p := ⟨gb183, _, none⟩) (by exact fcn hw182_0 GW183.out) _).trans (((z2q (p := ⟨gb183, _, none⟩) (by exact fcn hw182_0 GW183.out) _).trans (((z2q (p := ⟨gb183, _, none⟩) (by exact fcn hw182_0 GW183.out) _).trans (hHeld.2.2.2.2.2.2.2.2.1)))))))))))))))), ((z2q (p := ⟨gb183, _, none⟩) (by exact fcn hw182_1 GW183.out) _).trans (((z2q (p := ⟨gb183, _, none⟩) (by exact fcn hw182_1 GW183.out) _).trans (((z2q (p := ⟨gb183, _, none⟩) (by exact fcn hw182_1 GW183.out) _).trans (((z2q (p := ⟨gb183, _, none⟩) (by exact fcn hw182_1 GW183.out) _).trans (((z2q (p := ⟨gb183, _, none⟩) (by exact fcn hw182_1 GW183.out) _).trans (((z2q (p := ⟨gb183, _, none⟩) (by exact fcn hw182_1 GW183.out) _).trans (((z2q (p := ⟨gb183, _, none⟩) (by exact fcn hw182_1 GW183.out) _).trans (((z2q (p := ⟨gb183, _, none⟩) (by exact fcn hw182_1 GW183.out) _).trans (hHeld.2.2.2.2.2.2.2.2.2.1)))))))))))))))), ((z2q (p := ⟨gb183, _, none⟩) (by exact fcn hw182_2 GW183.out) _).trans (((z2q (p := ⟨gb183, _, none⟩) (by exact fcn hw182_2 GW183.out) _).trans (((z2q (p := ⟨gb183, _, none⟩) (by exact fcn hw182_2 GW183.out) _).trans (((z2q (p := ⟨gb183, _, none⟩) (by exact fcn hw182_2 GW183.out) _).trans (((z2q (p := ⟨gb183, _, none⟩) (by exact fcn hw182_2 GW183.out) _).trans (((z2q (p := ⟨gb183, _, none⟩) (by exact fcn hw182_2 GW183.out) _).trans (((z2q (p := ⟨gb183, _, none⟩) (by exact fcn hw182_2 GW183.out) _).trans (((z2q (p := ⟨gb183, _, none⟩) (by exact fcn hw182_2 GW183.out) _).trans (hHeld.2.2.2.2.2.2.2.2.2.2.1)))))))))))))))), ((z2q (p := ⟨gb183, _, none⟩) (by exact fcn hw182_3 GW183.out) _).trans (((z2q (p := ⟨gb183, _, none⟩) (by exact fcn hw182_3 GW183.out) _).trans (((z2q (p := ⟨gb183, _, none⟩) (by exact fcn hw182_3 GW183.out) _).trans (((z2q (p := ⟨gb183, _, none⟩) (by exact fcn hw182_3 GW183.out) _).trans (((z2q (p := ⟨gb183, _, none⟩) (by exact fcn hw182_3 GW183.out) _).trans (((z2q (p := ⟨gb183, _, none⟩) (by exact fcn hw182_3 GW183.out) _).trans (((z2q (p := ⟨gb183, _, none⟩) (by exact fcn hw182_3 GW183.out) _).trans (((z2q (p := ⟨gb183, _, none⟩) (by exact fcn hw182_3 GW183.out) _).trans (hHeld.2.2.2.2.2.2.2.2.2.2.2.1)))))))))))))))), ((z2q (p := ⟨gb183, _, none⟩) (by exact fcn hw182_4 GW183.out) _).trans (((z2q (p := ⟨gb183, _, none⟩) (by exact fcn hw182_4 GW183.out) _).trans (((z2q (p := ⟨gb183, _, none⟩) (by exact fcn hw182_4 GW183.out) _).trans (((z2q (p := ⟨gb183, _, none⟩) (by exact fcn hw182_4 GW183.out) _).trans (((z2q (p := ⟨gb183, _, none⟩) (by exact fcn hw182_4 GW183.out) _).trans (((z2q (p := ⟨gb183, _, none⟩) (by exact fcn hw182_4 GW183.out) _).trans (((z2q (p := ⟨gb183, _, none⟩) (by exact fcn hw182_4 GW183.out) _).trans (((z2q (p := ⟨gb183, _, none⟩) (by exact fcn hw182_4 GW183.out) _).trans (hHeld.2.2.2.2.2.2.2.2.2.2.2.2.1)))))))))))))))), ((z2q (p := ⟨gb183, _, none⟩) (by exact fcn hw182_5 GW183.out) _).trans (((z2q (p := ⟨gb183, _, none⟩) (by exact fcn hw182_5 GW183.out) _).trans (((z2q (p := ⟨gb183, _, none⟩) (by exact fcn hw182_5 GW183.out) _).trans (((z2q (p := ⟨gb183, _, none⟩) (by exact fcn hw182_5 GW183.out) _).trans (((z2q (p := ⟨gb183, _, none⟩) (by exact fcn hw182_5 GW183.out) _).trans (((z2q (p := ⟨gb183, _, none⟩) (by exact fcn hw182_5 GW183.out) _).trans (((z2q (p := ⟨gb183, _, none⟩) (by exact fcn hw182_5 GW183.out) _).trans (((z2q (p := ⟨gb183, _, none⟩) (by exact fcn hw182_5 GW183.out) _).trans (hHeld.2.2.2.2.2.2.2.2.2.2.2.2.2.1)))))))))))))))), ((z2q (p := ⟨gb183, _, none⟩) (by exact fcn hw182_6 GW183.out) _).trans (((z2q (p := ⟨gb183, _, none⟩) (by exact fcn hw182_6 GW183.out) _).trans (((z2q (p := ⟨gb183, _, none⟩) (by exact fcn hw182_6 GW183.out) _).trans (((z2q (p := ⟨gb183, _, none⟩) (by exact fcn hw182_6 GW183.out) _).trans (((z2q (p := ⟨gb183, _, none⟩) (by exact fcn hw182_6 GW183.out) _).trans (((z2q (p := ⟨gb183, _, none⟩) (by exact fcn hw182_6 GW183.out) _).trans (((z2q (p := ⟨gb183, _, none⟩) (by exact fcn hw182_6 GW183.out) _).trans (((z2q (p := ⟨gb183, _, none⟩) (by exact fcn hw182_6 GW183.out) _).trans (hHeld.2.2.2.2.2.2.2.2.2.2.2.2.2.2.1)))))))))))))))), ((z2q (p := ⟨gb183, _, none⟩) (by exact fcn hw182_7 GW183.out) _).trans (((z2q (p := ⟨gb183, _, none⟩) (by exact fcn hw182_7 GW183.out) _).trans (((z2q (p := ⟨gb183, _, none⟩) (by exact fcn hw182_7 GW183.out) _).trans (((z2q (p := ⟨gb183, _, none⟩) (by exact fcn hw182_7 GW183.out) _).trans (((z2q (p := ⟨gb183, _, none⟩) (by exact fcn hw182_7 GW183.out) _).trans (((z2q (p := ⟨gb183, _, none⟩) (by exact fcn hw182_7 GW183.out) _).trans (((z2q (p := ⟨gb183, _, none⟩) (by exact fcn hw182_7 GW183.out) _).trans (((z2q (p := ⟨gb183, _, none⟩) (by exact fcn hw182_7 GW183.out) _).trans (hHeld.2.2.2.2.2.2.2.2.2.2.2.2.2.2.2))))))))))))))))⟩ (fun hHeld => ?_)
                clear hK K
                refine done_ (done_of HT_.out (by kernel_rfl)) ?_
                try go_wp2
                have n0_ : Aside0 (Kd.R k107 107 ((((((((w33.setCell ⟨gb183, 0, none⟩ (.int .i64 ((rd_T107 l0 x6_2).f0))).setCell ⟨gb183, 1, none⟩ (.int .i64 ((rd_T107 l0 x6_2).f1))).setCell ⟨gb183, 2, none⟩ (.int .i64 0)).setCell ⟨gb183, 3, none⟩ (.bool false)).setCell ⟨gb183, 4, none⟩ (.int .i64 0)).setCell ⟨gb183, 5, none⟩ (.int .i64 0)).setCell ⟨gb183, 6, none⟩ (.string (⟨#[]⟩ : ByteArray))).setCell ⟨gb183, 7, none⟩ (.bool false)) w.heap.size (fun k_ => k_ ≠ gb183) u5 x5_2) := ⟨by (with_reducible repeat (first | apply Kd.R_alloc | apply Kd.R_drewN | apply Kd.R_drew)); exact Kd.R_mono (Kd.R_far (p := ⟨gb183, 7, none⟩) (Kd.R_far (p := ⟨gb183, 6, none⟩) (Kd.R_far (p := ⟨gb183, 5, none⟩) (Kd.R_far (p := ⟨gb183, 4, none⟩) (Kd.R_far (p := ⟨gb183, 3, none⟩) (Kd.R_far (p := ⟨gb183, 2, none⟩) (Kd.R_far (p := ⟨gb183, 1, none⟩) (Kd.R_far (p := ⟨gb183, 0, none⟩) (Kd.R_mono HO_5.out (fun k_ hk => (⟨hk, hk.2⟩ : _ ∧ k_ ≠ gb183))) (fun _ hk => hk.2) (.int .i64 ((rd_T107 l0 x6_2).f0))) (fun _ hk => hk.2) (.int .i64 ((rd_T107 l0 x6_2).f1))) (fun _ hk => hk.2) (.int .i64 0)) (fun _ hk => hk.2) (.bool false)) (fun _ hk => hk.2) (.int .i64 0)) (fun _ hk => hk.2) (.int .i64 0)) (fun _ hk => hk.2) (.string (⟨#[]⟩ : ByteArray))) (fun _ hk => hk.2) (.bool false)) (fun _ hk => hk.1.2)⟩
                have n1_ : Aside0 (((((((((w33.setCell ⟨gb183, 0, none⟩ (.int .i64 ((rd_T107 l0 x6_2).f0))).setCell ⟨gb183, 1, none⟩ (.int .i64 ((rd_T107 l0 x6_2).f1))).setCell ⟨gb183, 2, none⟩ (.int .i64 0)).setCell ⟨gb183, 3, none⟩ (.bool false)).setCell ⟨gb183, 4, none⟩ (.int .i64 0)).setCell ⟨gb183, 5, none⟩ (.int .i64 0)).setCell ⟨gb183, 6, none⟩ (.string (⟨#[]⟩ : ByteArray))).setCell ⟨gb183, 7, none⟩ (.bool false)).heap[gb183]? = some (.cells #[.int .i64 ((rd_T107 l0 x6_2).f0), .int .i64 ((rd_T107 l0 x6_2).f1), .int .i64 0, .bool false, .int .i64 0, .int .i64 0, .string (⟨#[]⟩ : ByteArray), .bool false] 107 (0, 0))) := ⟨by refine cz ?_; refine z10q (cs := #[.int .i64 ((rd_T107 l0 x6_2).f0), .int .i64 ((rd_T107 l0 x6_2).f1), .int .i64 0, .bool false, .int .i64 0, .int .i64 0, .string (⟨#[]⟩ : ByteArray), .bool false]) ?_ 7 _ rfl; refine cz ?_; refine z10q (cs := #[.int .i64 ((rd_T107 l0 x6_2).f0), .int .i64 ((rd_T107 l0 x6_2).f1), .int .i64 0, .bool false, .int .i64 0, .int .i64 0, .string (⟨#[]⟩ : ByteArray), .bool false]) ?_ 6 _ rfl; refine cz ?_; refine z10q (cs := #[.int .i64 ((rd_T107 l0 x6_2).f0), .int .i64 ((rd_T107 l0 x6_2).f1), .int .i64 0, .bool false, .int .i64 0, .int .i64 0, .string (⟨#[]⟩ : ByteArray), .bool false]) ?_ 5 _ rfl; refine cz ?_; refine z10q (cs := #[.int .i64 ((rd_T107 l0 x6_2).f0), .int .i64 ((rd_T107 l0 x6_2).f1), .int .i64 0, .bool false, .int .i64 0, .int .i64 0, .string (⟨#[]⟩ : ByteArray), .bool false]) ?_ 4 _ rfl; refine cz ?_; refine z10q (cs := #[.int .i64 ((rd_T107 l0 x6_2).f0), .int .i64 ((rd_T107 l0 x6_2).f1), .int .i64 0, .bool false, .int .i64 0, .int .i64 0, .string (⟨#[]⟩ : ByteArray), .bool false]) ?_ 3 _ rfl; refine cz ?_; refine z10q (cs := #[.int .i64 ((rd_T107 l0 x6_2).f0), .int .i64 ((rd_T107 l0 x6_2).f1), .int .i64 0, .bool false, .int .i64 0, .int .i64 0, .string (⟨#[]⟩ : ByteArray), .bool false]) ?_ 2 _ rfl; refine cz ?_; refine z10q (cs := #[.int .i64 ((rd_T107 l0 x6_2).f0), .int .i64 0, .int .i64 0, .bool false, .int .i64 0, .int .i64 0, .string (⟨#[]⟩ : ByteArray), .bool false]) ?_ 1 _ rfl; refine cz ?_; refine z10q (cs := #[.int .i64 0, .int .i64 0, .int .i64 0, .bool false, .int .i64 0, .int .i64 0, .string (⟨#[]⟩ : ByteArray), .bool false]) ?_ 0 _ rfl; (with_reducible repeat (first | refine z14q ?_ _ | refine z18q ?_ | refine z12q ?_ _)); exact BK183.out⟩
                have n2_ : Aside0 (Below w.heap.size w ((((((((w33.setCell ⟨gb183, 0, none⟩ (.int .i64 ((rd_T107 l0 x6_2).f0))).setCell ⟨gb183, 1, none⟩ (.int .i64 ((rd_T107 l0 x6_2).f1))).setCell ⟨gb183, 2, none⟩ (.int .i64 0)).setCell ⟨gb183, 3, none⟩ (.bool false)).setCell ⟨gb183, 4, none⟩ (.int .i64 0)).setCell ⟨gb183, 5, none⟩ (.int .i64 0)).setCell ⟨gb183, 6, none⟩ (.string (⟨#[]⟩ : ByteArray))).setCell ⟨gb183, 7, none⟩ (.bool false))) := ⟨by repeat (first | (with_reducible first | exact HB.out | apply z7q | apply z3q | apply z4q | refine z11q ?_ GE183.out) | exact HB.out)⟩
                (try clear HO_5)
                (try clear BK183)
                (try clear HB)
                generalize ((((((((w33.setCell ⟨gb183, 0, none⟩ (.int .i64 ((rd_T107 l0 x6_2).f0))).setCell ⟨gb183, 1, none⟩ (.int .i64 ((rd_T107 l0 x6_2).f1))).setCell ⟨gb183, 2, none⟩ (.int .i64 0)).setCell ⟨gb183, 3, none⟩ (.bool false)).setCell ⟨gb183, 4, none⟩ (.int .i64 0)).setCell ⟨gb183, 5, none⟩ (.int .i64 0)).setCell ⟨gb183, 6, none⟩ (.string (⟨#[]⟩ : ByteArray))).setCell ⟨gb183, 7, none⟩ (.bool false)) = w42 at n0_ n1_ n2_ ⊢
                have HO_5 := n0_
                have BK183 := n1_
                have HB := n2_
                clear n0_ n1_ n2_
                have n0_ := Aside0.mk (Kd.R_drew HO_5.out)
                have n1_ := Aside0.mk (z18q BK183.out)
                have n2_ := Aside0.mk (z4q HB.out)
                clear HO_5
                clear BK183
                clear HB
                have HO_5 := n0_
                have BK183 := n1_
                have HB := n2_
                clear n0_ n1_ n2_
                have p184 : 0 ≤ (x6_2 : Int) := of_decide_eq_true (by first | (with_reducible assumption) | assumption)
                have q184 : x6_2 < (l0.length : Int) := of_decide_eq_true (by first | (with_reducible assumption) | assumption)
                obtain ⟨ad184, e184, hx184_0, hx184_1, hx184_2, hx184_3, hx184_4, hx184_5, hx184_6, hx184_7⟩ := at_T107 HR0.out x6_2 p184 q184
                have hw184_7 := hx184_7
                have hw184_6 := hx184_6
                have hw184_5 := hx184_5
                have hw184_4 := hx184_4
                have hw184_3 := hx184_3
                have hw184_2 := hx184_2
                have hw184_1 := hx184_1
                have hw184_0 := hx184_0
                obtain rfl : ad181 = ad184 := (by injection e184)
                replace hx184_0 := (hbc HB.out hx184_0).trans hx184_0
                replace hx184_1 := (hbc HB.out hx184_1).trans hx184_1
                replace hx184_2 := (hbc HB.out hx184_2).trans hx184_2
                replace hx184_3 := (hbc HB.out hx184_3).trans hx184_3
                replace hx184_4 := (hbc HB.out hx184_4).trans hx184_4
                replace hx184_5 := (hbc HB.out hx184_5).trans hx184_5
                replace hx184_6 := (hbc HB.out hx184_6).trans hx184_6
                replace hx184_7 := (hbc HB.out hx184_7).trans hx184_7
                replace p184 := eq_true p184
                replace q184 := eq_true q184
                refine start_ (n := 6) (S := fun w' => w'.cell? ⟨gb183, 0, none⟩ = some (.int .i64 ((rd_T107 l0 x6_2).f0)) ∧ w'.cell? ⟨gb183, 1, none⟩ = some (.int .i64 ((rd_T107 l0 x6_2).f1)) ∧ w'.cell? ⟨gb183, 2, none⟩ = some (.int .i64 0) ∧ w'.cell? ⟨gb183, 3, none⟩ = some (.bool false) ∧ w'.cell? ⟨gb183, 4, none⟩ = some (.int .i64 0) ∧ w'.cell? ⟨gb183, 5, none⟩ = some (.int .i64 0) ∧ w'.cell? ⟨gb183, 6, none⟩ = some (.string (⟨#[]⟩ : ByteArray)) ∧ w'.cell? ⟨gb183, 7, none⟩ = some (.bool false) ∧ w'.cell? (ad181.add ((x6_2).toNat * 8)) = some (.int .i64 ((rd_T107 l0 x6_2).f0)) ∧ w'.cell? ⟨(ad181.add ((x6_2).toNat * 8)).block, (ad181.add ((x6_2).toNat * 8)).off + 1, none⟩ = some (.int .i64 ((rd_T107 l0 x6_2).f1)) ∧ w'.cell? ⟨(ad181.add ((x6_2).toNat * 8)).block, (ad181.add ((x6_2).toNat * 8)).off + 2, none⟩ = some (.int .i64 ((rd_T107 l0 x6_2).f2.f0)) ∧ w'.cell? ⟨(ad181.add ((x6_2).toNat * 8)).block, (ad181.add ((x6_2).toNat * 8)).off + 3, none⟩ = some (.bool ((rd_T107 l0 x6_2).f2.f1.f0)) ∧ w'.cell? ⟨(ad181.add ((x6_2).toNat * 8)).block, (ad181.add ((x6_2).toNat * 8)).off + 4, none⟩ = some (.int .i64 ((rd_T107 l0 x6_2).f2.f1.f1)) ∧ w'.cell? ⟨(ad181.add ((x6_2).toNat * 8)).block, (ad181.add ((x6_2).toNat * 8)).off + 5, none⟩ = some (.int .i64 ((rd_T107 l0 x6_2).f2.f1.f2)) ∧ w'.cell? ⟨(ad181.add ((x6_2).toNat * 8)).block, (ad181.add ((x6_2).toNat * 8)).off + 6, none⟩ = some (.string ((rd_T107 l0 x6_2).f2.f2)) ∧ w'.cell? ⟨(ad181.add ((x6_2).toNat * 8)).block, (ad181.add ((x6_2).toNat * 8)).off + 7, none⟩ = some (.bool ((rd_T107 l0 x6_2).f3))) (ds := []) bt4_66 (by kernel_rfl) rfl rfl ⟨(z1q BK183.out 0).trans rfl, (z1q BK183.out 1).trans rfl, (z1q BK183.out 2).trans rfl, (z1q BK183.out 3).trans rfl, (z1q BK183.out 4).trans rfl, (z1q BK183.out 5).trans rfl, (z1q BK183.out 6).trans rfl, (z1q BK183.out 7).trans rfl, (hbt HB.out hw184_0), (hbt HB.out hw184_1), (hbt HB.out hw184_2), (hbt HB.out hw184_3), (hbt HB.out hw184_4), (hbt HB.out hw184_5), (hbt HB.out hw184_6), (hbt HB.out hw184_7)⟩ (fun hHeld => ?_)
                generalize w42.drew = w43 at HO_5 BK183 HB hx184_0 hx184_1 hx184_2 hx184_3 hx184_4 hx184_5 hx184_6 hx184_7 hHeld ⊢
                refine pure_ (i := 0) (N := some 95) (v := ?_) (a' := ?_) bt4_67 rfl rfl (by kernel_rfl) (fun _ _ _ h => h) (Or.inl ⟨by rfl, ?_⟩) ?_ ?_
                rotate_left
                ·intro w'
                 go_simp
                 with_reducible rfl
                rotate_left
                ·simp only [Act.put, setIfInBounds_toArray, set_cons_zero, set_cons_succ, i64_w, i32_w]
                 rfl
                refine pure_ (i := 1) (N := some 96) (v := ?_) (a' := ?_) bt4_68 rfl rfl (by kernel_rfl) (fun _ _ _ h => h) (Or.inl ⟨by rfl, ?_⟩) ?_ ?_
                rotate_left
                ·intro w'
                 go_simp
                 with_reducible rfl
                rotate_left
                ·simp only [Act.put, setIfInBounds_toArray, set_cons_zero, set_cons_succ, i64_w, i32_w]
                 rfl
                refine pure_ (i := 2) (N := some 97) (v := ?_) (a' := ?_) bt4_69 rfl rfl (by kernel_rfl) (fun _ _ _ h => h) (Or.inl ⟨by rfl, ?_⟩) ?_ ?_
                rotate_left
                ·intro w'
                 go_simp
                 with_reducible rfl
                rotate_left
                ·simp only [Act.put, setIfInBounds_toArray, set_cons_zero, set_cons_succ, i64_w, i32_w]
                 rfl
                refine take_ (i := 3) (N := some 98) (v := ?_) (a' := ?_) #[true, true, true, true, false, false] rfl rfl (by kernel_rfl) (fun _ _ _ h => h) (Or.inl ⟨by rfl, ?_⟩) hHeld ?_ ?_
                rotate_left
                ·rintro w' ⟨s0, s1, s2, s3, s4, s5, s6, s7, s8, s9, s10, s11, s12, s13, s14, s15⟩
                 go_simp
                 with_reducible rfl
                rotate_left
                ·simp only [Act.put, setIfInBounds_toArray, set_cons_zero, set_cons_succ, i64_w, i32_w]
                 rfl
                refine take_ (i := 4) (N := some 99) (v := ?_) (a' := ?_) #[true, true, true, true, true, false] rfl rfl (by kernel_rfl) (fun _ _ _ h => h) (Or.inl ⟨by rfl, ?_⟩) hHeld ?_ ?_
                rotate_left
                ·rintro w' ⟨s0, s1, s2, s3, s4, s5, s6, s7, s8, s9, s10, s11, s12, s13, s14, s15⟩
                 go_simp
                 with_reducible rfl
                rotate_left
                ·simp only [Act.put, setIfInBounds_toArray, set_cons_zero, set_cons_succ, i64_w, i32_w]
                 rfl
                refine pure_ (i := 5) (N := some 100) (v := ?_) (a' := ?_) #[true, true, true, true, true, true] rfl rfl (by kernel_rfl) (fun _ _ _ h => h) (Or.inl ⟨by rfl, ?_⟩) ?_ ?_
                rotate_left
                ·intro w'
                 go_simp
                 with_reducible rfl
                rotate_left
                ·simp only [Act.put, setIfInBounds_toArray, set_cons_zero, set_cons_succ, i64_w, i32_w]
                 rfl
                refine done_ (by kernel_rfl) ?_
                have hcz44_0 : w43.cell? ⟨gb183, 0, none⟩ = some (.int .i64 ((rd_T107 l0 x6_2).f0)) := (z1q BK183.out 0).trans rfl
                have hcz44_1 : w43.cell? ⟨gb183, 1, none⟩ = some (.int .i64 ((rd_T107 l0 x6_2).f1)) := (z1q BK183.out 1).trans rfl
                have hcz44_2 : w43.cell? ⟨gb183, 2, none⟩ = some (.int .i64 0) := (z1q BK183.out 2).trans rfl
                have hcz44_3 : w43.cell? ⟨gb183, 3, none⟩ = some (.bool false) := (z1q BK183.out 3).trans rfl
                have hcz44_4 : w43.cell? ⟨gb183, 4, none⟩ = some (.int .i64 0) := (z1q BK183.out 4).trans rfl
                have hcz44_5 : w43.cell? ⟨gb183, 5, none⟩ = some (.int .i64 0) := (z1q BK183.out 5).trans rfl
                have hcz44_6 : w43.cell? ⟨gb183, 6, none⟩ = some (.string (⟨#[]⟩ : ByteArray)) := (z1q BK183.out 6).trans rfl
                have hcz44_7 : w43.cell? ⟨gb183, 7, none⟩ = some (.bool false) := (z1q BK183.out 7).trans rfl
                have hfz44_0 := z0q BK183.out 0
                have hfz44_1 := z0q BK183.out 1
                have hfz44_2 := z0q BK183.out 2
                have hfz44_3 := z0q BK183.out 3
                have hfz44_4 := z0q BK183.out 4
                have hfz44_5 := z0q BK183.out 5
                have hfz44_6 := z0q BK183.out 6
                have hfz44_7 := z0q BK183.out 7
                try go_wp2_with (first | ((with_reducible refine gate_builtin (b := .append) (xs := #[.tmp 101, .tmp 103]) rfl ?_); (try (refine gate_guard (by rfl) ?_; dsimp only)); at_builtin; refine Kd.R_append k107 (w0 := w) w.heap.size rfl (.tmp 101) (.tmp 103) 60 107 (.agg #[(.int .i64 0), (.int .i64 0), (.int .i64 0), (.bool false), (.int .i64 0), (.int .i64 0), (.string ⟨#[]⟩), (.bool false)]) 72 rfl Try.underlying60 info107 rfl (by decide) (by omega) u5 x5_2 (⟨(rd_T107 l0 x6_2).f0, (rd_T107 l0 x6_2).f1, (⟨0, (⟨false, 0, 0⟩ : S103), (⟨#[]⟩ : ByteArray)⟩ : S105), false⟩ : S107) [.int .i64 ((rd_T107 l0 x6_2).f0), .int .i64 ((rd_T107 l0 x6_2).f1), .int .i64 0, .bool false, .int .i64 0, .int .i64 0, .string (⟨#[]⟩ : ByteArray), .bool false] (fun k_ => k_ ≠ gb183) (fun _ => False) rfl rfl ?aP (fun _ hk => hk.elim) ?aF ?aO ?aB ?aS ?aL ?_; (case aP => exact k107_mkM _ _ _ (⟨(rd_T107 l0 x6_2).f0, (rd_T107 l0 x6_2).f1, (⟨0, (⟨false, 0, 0⟩ : S103), (⟨#[]⟩ : ByteArray)⟩ : S105), false⟩ : S107)); (case aB => exact (ibh HB.out)); (case aF => exact (fun k_ hk => Kd.freshB (g := gb183) (o := .cells #[.int .i64 ((rd_T107 l0 x6_2).f0), .int .i64 ((rd_T107 l0 x6_2).f1), .int .i64 0, .bool false, .int .i64 0, .int .i64 0, .string (⟨#[]⟩ : ByteArray), .bool false] 107 (0, 0)) (cy BK183.out) k_ hk)); (case aO => exact (ro HO_5.out)); (case aS => exact (z5q (ibh HB.out))); (case aL => have := LMc31.out; omega); intro v186 w45 ho hb hg hat; rw [← Ny185.out] at ho; have n0_ := Aside0.mk (blk_grown (g := gb183) (o := .cells #[.int .i64 ((rd_T107 l0 x6_2).f0), .int .i64 ((rd_T107 l0 x6_2).f1), .int .i64 0, .bool false, .int .i64 0, .int .i64 0, .string (⟨#[]⟩ : ByteArray), .bool false] 107 (0, 0)) (cy BK183.out) hg (Kd.R_away HO_5.out (fun _ hk => hk))); have n1_ := Aside0.mk (hb); have n2_ := Aside0.mk (ho); clear BK183; clear HB; clear HO_5; have BK183 := n0_; have HB := n1_; have HO187 := n2_; clear n0_ n1_ n2_; clear ho hb hg hat))
                go_roundg kj15
                case measure => have := HJ2.out; have := HK2.out; have := HJ12.out; have := HJ15.out; omega
                case rel => exact ⟨(y185), (wrap64 (x6_2 + 1)), (x7_2), (by first | rfl | (simp; done) | (simp [*]; done) | (simp; unfold wrap64; omega)), (by first | rfl | (simp; done) | (simp [*]; done) | (simp; unfold wrap64; omega)), H', ⟨by have := HJ2.out; have := HK2.out; have := HJ12.out; have := HJ15.out; omega⟩, ⟨by (with_reducible repeat (first | apply Kd.R_alloc | apply Kd.R_drewN | apply Kd.R_drew)); exact Kd.R_mono HO187.out (fun _ hk => trivial)⟩, ⟨by repeat (first | (with_reducible first | exact HB.out | apply z7q | apply z3q | apply z4q | refine z11q ?_ GE183.out) | exact HB.out)⟩⟩
               ·rw [if_neg c31] at H
                exact absurd H (by simp)
              ·skip
               rw [if_neg c30] at H
               have c30b0 : ((!(((rd_T107 l0 x6_2).f2.f0) == 0) || ((((rd_T107 l0 x6_2).f2.f1.f0) || (!(((rd_T107 l0 x6_2).f2.f1.f1) == 0) || (!(((rd_T107 l0 x6_2).f2.f1.f2) == 0)))) || (!((((rd_T107 l0 x6_2).f2.f2).toList) == ([] : List UInt8))))) || (((rd_T107 l0 x6_2).f3))) = false := by simpa using c30
               rw [show ((((rd_T107 l0 x6_2).f2.f2).toList) == ([] : List UInt8)) = ((rd_T107 l0 x6_2).f2.f2).toList.isEmpty from by cases ((rd_T107 l0 x6_2).f2.f2).toList <;> rfl] at c30b0
               clear c30
               have H' := Aside0.mk H
               clear H
               try go_wp2
               have n0_ := Aside0.mk (Kd.R_drew HO_5.out)
               have n1_ := Aside0.mk (z4q HB.out)
               clear HO_5
               clear HB
               have HO_5 := n0_
               have HB := n1_
               clear n0_ n1_
               have p181 : 0 ≤ (x6_2 : Int) := of_decide_eq_true (by first | (with_reducible assumption) | assumption)
               have q181 : x6_2 < (l0.length : Int) := of_decide_eq_true (by first | (with_reducible assumption) | assumption)
               obtain ⟨ad181, e181, hx181_0, hx181_1, hx181_2, hx181_3, hx181_4, hx181_5, hx181_6, hx181_7⟩ := at_T107 HR0.out x6_2 p181 q181
               have hw181_7 := hx181_7
               have hw181_6 := hx181_6
               have hw181_5 := hx181_5
               have hw181_4 := hx181_4
               have hw181_3 := hx181_3
               have hw181_2 := hx181_2
               have hw181_1 := hx181_1
               have hw181_0 := hx181_0
               cases e181
               replace hx181_0 := (hbc HB.out hx181_0).trans hx181_0
               replace hx181_1 := (hbc HB.out hx181_1).trans hx181_1
               replace hx181_2 := (hbc HB.out hx181_2).trans hx181_2
               replace hx181_3 := (hbc HB.out hx181_3).trans hx181_3
               replace hx181_4 := (hbc HB.out hx181_4).trans hx181_4
               replace hx181_5 := (hbc HB.out hx181_5).trans hx181_5
               replace hx181_6 := (hbc HB.out hx181_6).trans hx181_6
               replace hx181_7 := (hbc HB.out hx181_7).trans hx181_7
               replace p181 := eq_true p181
               replace q181 := eq_true q181
               have p182 : 0 ≤ (x6_2 : Int) := of_decide_eq_true (by first | (with_reducible assumption) | assumption)
               have q182 : x6_2 < (l0.length : Int) := of_decide_eq_true (by first | (with_reducible assumption) | assumption)
               obtain ⟨ad182, e182, hx182_0, hx182_1, hx182_2, hx182_3, hx182_4, hx182_5, hx182_6, hx182_7⟩ := at_T107 HR0.out x6_2 p182 q182
               have hw182_7 := hx182_7
               have hw182_6 := hx182_6
               have hw182_5 := hx182_5
               have hw182_4 := hx182_4
               have hw182_3 := hx182_3
               have hw182_2 := hx182_2
               have hw182_1 := hx182_1
               have hw182_0 := hx182_0
               obtain rfl : ad181 = ad182 := (by injection e182)
               replace hx182_0 := (hbc HB.out hx182_0).trans hx182_0
               replace hx182_1 := (hbc HB.out hx182_1).trans hx182_1
               replace hx182_2 := (hbc HB.out hx182_2).trans hx182_2
               replace hx182_3 := (hbc HB.out hx182_3).trans hx182_3
               replace hx182_4 := (hbc HB.out hx182_4).trans hx182_4
               replace hx182_5 := (hbc HB.out hx182_5).trans hx182_5
               replace hx182_6 := (hbc HB.out hx182_6).trans hx182_6
               replace hx182_7 := (hbc HB.out hx182_7).trans hx182_7
               replace p182 := eq_true p182
               replace q182 := eq_true q182
               refine start_ (n := 13) (S := fun w' => w'.cell? (ad181.add ((x6_2).toNat * 8)) = some (.int .i64 ((rd_T107 l0 x6_2).f0)) ∧ w'.cell? ⟨(ad181.add ((x6_2).toNat * 8)).block, (ad181.add ((x6_2).toNat * 8)).off + 1, none⟩ = some (.int .i64 ((rd_T107 l0 x6_2).f1)) ∧ w'.cell? ⟨(ad181.add ((x6_2).toNat * 8)).block, (ad181.add ((x6_2).toNat * 8)).off + 2, none⟩ = some (.int .i64 ((rd_T107 l0 x6_2).f2.f0)) ∧ w'.cell? ⟨(ad181.add ((x6_2).toNat * 8)).block, (ad181.add ((x6_2).toNat * 8)).off + 3, none⟩ = some (.bool ((rd_T107 l0 x6_2).f2.f1.f0)) ∧ w'.cell? ⟨(ad181.add ((x6_2).toNat * 8)).block, (ad181.add ((x6_2).toNat * 8)).off + 4, none⟩ = some (.int .i64 ((rd_T107 l0 x6_2).f2.f1.f1)) ∧ w'.cell? ⟨(ad181.add ((x6_2).toNat * 8)).block, (ad181.add ((x6_2).toNat * 8)).off + 5, none⟩ = some (.int .i64 ((rd_T107 l0 x6_2).f2.f1.f2)) ∧ w'.cell? ⟨(ad181.add ((x6_2).toNat * 8)).block, (ad181.add ((x6_2).toNat * 8)).off + 6, none⟩ = some (.string ((rd_T107 l0 x6_2).f2.f2)) ∧ w'.cell? ⟨(ad181.add ((x6_2).toNat * 8)).block, (ad181.add ((x6_2).toNat * 8)).off + 7, none⟩ = some (.bool ((rd_T107 l0 x6_2).f3)) ∧ w'.cell? (ad181.add ((x6_2).toNat * 8)) = some (.int .i64 ((rd_T107 l0 x6_2).f0)) ∧ w'.cell? ⟨(ad181.add ((x6_2).toNat * 8)).block, (ad181.add ((x6_2).toNat * 8)).off + 1, none⟩ = some (.int .i64 ((rd_T107 l0 x6_2).f1)) ∧ w'.cell? ⟨(ad181.add ((x6_2).toNat * 8)).block, (ad181.add ((x6_2).toNat * 8)).off + 2, none⟩ = some (.int .i64 ((rd_T107 l0 x6_2).f2.f0)) ∧ w'.cell? ⟨(ad181.add ((x6_2).toNat * 8)).block, (ad181.add ((x6_2).toNat * 8)).off + 3, none⟩ = some (.bool ((rd_T107 l0 x6_2).f2.f1.f0)) ∧ w'.cell? ⟨(ad181.add ((x6_2).toNat * 8)).block, (ad181.add ((x6_2).toNat * 8)).off + 4, none⟩ = some (.int .i64 ((rd_T107 l0 x6_2).f2.f1.f1)) ∧ w'.cell? ⟨(ad181.add ((x6_2).toNat * 8)).block, (ad181.add ((x6_2).toNat * 8)).off + 5, none⟩ = some (.int .i64 ((rd_T107 l0 x6_2).f2.f1.f2)) ∧ w'.cell? ⟨(ad181.add ((x6_2).toNat * 8)).block, (ad181.add ((x6_2).toNat * 8)).off + 6, none⟩ = some (.string ((rd_T107 l0 x6_2).f2.f2)) ∧ w'.cell? ⟨(ad181.add ((x6_2).toNat * 8)).block, (ad181.add ((x6_2).toNat * 8)).off + 7, none⟩ = some (.bool ((rd_T107 l0 x6_2).f3))) (ds := []) bt4_52 (by kernel_rfl) rfl rfl ⟨(hbt HB.out hw181_0), (hbt HB.out hw181_1), (hbt HB.out hw181_2), (hbt HB.out hw181_3), (hbt HB.out hw181_4), (hbt HB.out hw181_5), (hbt HB.out hw181_6), (hbt HB.out hw181_7), (hbt HB.out hw182_0), (hbt HB.out hw182_1), (hbt HB.out hw182_2), (hbt HB.out hw182_3), (hbt HB.out hw182_4), (hbt HB.out hw182_5), (hbt HB.out hw182_6), (hbt HB.out hw182_7)⟩ (fun hHeld => ?_); refine with_tabW impl_Differ.tab12 impl_Differ.bits12 (fun HT_ HW_ => ?_)
               generalize wc.drew = w46 at HO_5 HB hx181_0 hx181_1 hx181_2 hx181_3 hx181_4 hx181_5 hx181_6 hx181_7 hx182_0 hx182_1 hx182_2 hx182_3 hx182_4 hx182_5 hx182_6 hx182_7 hHeld ⊢
               refine pure_ (i := 0) (N := some 84) (v := ?_) (a' := ?_) bt4_53 rfl rfl (z8q HT_.out (by kernel_rfl)) (fun _ _ _ h => h) (Or.inl ⟨by rfl, ?_⟩) ?_ ?_
               rotate_left
               ·intro w'
                go_simp
                with_reducible rfl
               rotate_left
               ·simp only [Act.put, setIfInBounds_toArray, set_cons_zero, set_cons_succ, i64_w, i32_w]
                rfl
               refine pure_ (i := 1) (N := some 85) (v := ?_) (a' := ?_) bt4_54 rfl rfl (z8q HT_.out (by kernel_rfl)) (fun _ _ _ h => h) (Or.inl ⟨by rfl, ?_⟩) ?_ ?_
               rotate_left
               ·intro w'
                go_simp
                with_reducible rfl
               rotate_left
               ·simp only [Act.put, setIfInBounds_toArray, set_cons_zero, set_cons_succ, i64_w, i32_w]
                rfl
               refine pure_ (i := 2) (N := some 86) (v := ?_) (a' := ?_) bt4_55 rfl rfl (z8q HT_.out (by kernel_rfl)) (fun _ _ _ h => h) (Or.inl ⟨by rfl, ?_⟩) ?_ ?_
               rotate_left
               ·intro w'
                go_simp
                with_reducible rfl
               rotate_left
               ·simp only [Act.put, setIfInBounds_toArray, set_cons_zero, set_cons_succ, i64_w, i32_w]
                rfl
               refine pure_ (i := 3) (N := some 87) (v := ?_) (a' := ?_) bt4_56 rfl rfl (z8q HT_.out (by kernel_rfl)) (fun _ _ _ h => h) (Or.inl ⟨by rfl, ?_⟩) ?_ ?_
               rotate_left
               ·intro w'
                go_simp
                with_reducible rfl
               rotate_left
               ·simp only [Act.put, setIfInBounds_toArray, set_cons_zero, set_cons_succ, i64_w, i32_w]
                rfl
               refine pure_ (i := 5) (N := some 89) (v := ?_) (a' := ?_) bt4_57 rfl rfl (z8q HT_.out (by kernel_rfl)) (fun _ _ _ h => h) (Or.inl ⟨by rfl, ?_⟩) ?_ ?_
               rotate_left
               ·intro w'
                go_simp
                with_reducible rfl
               rotate_left
               ·simp only [Act.put, setIfInBounds_toArray, set_cons_zero, set_cons_succ, i64_w, i32_w]
                rfl
               refine pure_ (i := 6) (N := some 90) (v := ?_) (a' := ?_) bt4_58 rfl rfl (z8q HT_.out (by kernel_rfl)) (fun _ _ _ h => h) (Or.inl ⟨by rfl, ?_⟩) ?_ ?_
               rotate_left
               ·intro w'
                go_simp
                with_reducible rfl
               rotate_left
               ·simp only [Act.put, setIfInBounds_toArray, set_cons_zero, set_cons_succ, i64_w, i32_w]
                rfl
               refine pure_ (i := 7) (N := some 91) (v := ?_) (a' := ?_) bt4_59 rfl rfl (z8q HT_.out (by kernel_rfl)) (fun _ _ _ h => h) (Or.inl ⟨by rfl, ?_⟩) ?_ ?_
               rotate_left
               ·intro w'
                go_simp
                with_reducible rfl
               rotate_left
               ·simp only [Act.put, setIfInBounds_toArray, set_cons_zero, set_cons_succ, i64_w, i32_w]
                rfl
               refine pure_ (i := 8) (N := some 92) (v := ?_) (a' := ?_) bt4_60 rfl rfl (z8q HT_.out (by kernel_rfl)) (fun _ _ _ h => h) (Or.inl ⟨by rfl, ?_⟩) ?_ ?_
               rotate_left
               ·intro w'
                go_simp
                with_reducible rfl
               rotate_left
               ·simp only [Act.put, setIfInBounds_toArray, set_cons_zero, set_cons_succ, i64_w, i32_w]
                rfl
               refine take_ (i := 4) (N := some 88) (v := ?_) (a' := ?_) bt4_61 rfl rfl (z19q HT_.out HW_.out (by kernel_rfl)) (fun _ _ _ h => h) (Or.inl ⟨by rfl, ?_⟩) hHeld ?_ ?_
               rotate_left
               ·rintro w' ⟨s0, s1, s2, s3, s4, s5, s6, s7, s8, s9, s10, s11, s12, s13, s14, s15⟩
                go_simp
                with_reducible rfl
               rotate_left
               ·simp only [Act.put, setIfInBounds_toArray, set_cons_zero, set_cons_succ, i64_w, i32_w]
                rfl
               refine take_ (i := 9) (N := some 93) (v := ?_) (a' := ?_) bt4_62 rfl rfl (z19q HT_.out HW_.out (by kernel_rfl)) (fun _ _ _ h => h) (Or.inl ⟨by rfl, ?_⟩) hHeld ?_ ?_
               rotate_left
               ·rintro w' ⟨s0, s1, s2, s3, s4, s5, s6, s7, s8, s9, s10, s11, s12, s13, s14, s15⟩
                go_simp
                with_reducible rfl
               rotate_left
               ·simp only [Act.put, setIfInBounds_toArray, set_cons_zero, set_cons_succ, i64_w, i32_w]
                rfl
               refine pure_ (i := 10) (N := some 94) (v := ?_) (a' := ?_) bt4_63 rfl rfl (z8q HT_.out (by kernel_rfl)) (fun _ _ _ h => h) (Or.inl ⟨by rfl, ?_⟩) ?_ ?_
               rotate_left
               ·intro w'
                go_simp
                with_reducible rfl
               rotate_left
               ·simp only [Act.put, setIfInBounds_toArray, set_cons_zero, set_cons_succ, i64_w, i32_w]
                rfl
               refine one_ (i := 11) (N := some 8) bt4_64 rfl rfl (one_of HT_.out (by kernel_rfl)) (by decide) (fun K hK => ?_)
               refine box_step ?hg (N := 8) ?hd (cs := #[.int .i64 0, .int .i64 0, .int .i64 0, .bool false, .int .i64 0, .int .i64 0, .string (⟨#[]⟩ : ByteArray), .bool false]) (t := 107) ?hr ?_; (case hd => rfl); (case hg => rfl); (case hr => first | (go_simp; done) | (go_simp; rfl))
               intro gb183 hg w47 hbox hb
               have n0_ := Aside0.mk (Kd.R_below (Kd.R_elderB (ro HO_5.out) gb183 (Nat.le_of_eq hg.symm)) hb)
               have n1_ := Aside0.mk (z6q (ibh HB.out) hb)
               have n2_ := Aside0.mk (hbox)
               have n3_ := Aside0.mk ((by rw [hg]; exact (z5q (ibh HB.out)) : w.heap.size ≤ gb183))
               have n4_ := Aside0.mk ((by rw [hg]; exact (z5q (ibh HB.out)) : w.heap.size ≤ gb183))
               clear HO_5
               clear HB
               have HO_5 := n0_
               have HB := n1_
               have BK183 := n2_
               have GW183 := n3_
               have GE183 := n4_
               clear n0_ n1_ n2_ n3_ n4_
               clear hb hbox hg
               refine hK.out _ _ ⟨(hbt HB.out hw181_0), (hbt HB.out hw181_1), (hbt HB.out hw181_2), (hbt HB.out hw181_3), (hbt HB.out hw181_4), (hbt HB.out hw181_5), (hbt HB.out hw181_6), (hbt HB.out hw181_7), (hbt HB.out hw182_0), (hbt HB.out hw182_1), (hbt HB.out hw182_2), (hbt HB.out hw182_3), (hbt HB.out hw182_4), (hbt HB.out hw182_5), (hbt HB.out hw182_6), (hbt HB.out hw182_7)⟩ (fun hHeld => ?_)
               clear hK K
               refine norm_ (a' := ?_) ?_ ?_
               rotate_left
               ·show Act.put _ (some 8) _ = _
                simp only [Act.put, setIfInBounds_toArray, set_cons_zero, set_cons_succ, i64_w, i32_w]
                rfl
               refine one_ (i := 12) (N := none) bt4_65 rfl rfl (one_of HT_.out (by kernel_rfl)) (by decide) (fun K hK => ?_)
               have hs48 : w47.cell? ⟨gb183, 0, none⟩ = some (.int .i64 0) := (z1q BK183.out 0).trans rfl
               have hfs48 := z0q BK183.out 0
               have hs49 : w47.cell? ⟨gb183, 1, none⟩ = some (.int .i64 0) := (z1q BK183.out 1).trans rfl
               have hfs49 := z0q BK183.out 1
               have hs50 : w47.cell? ⟨gb183, 2, none⟩ = some (.int .i64 0) := (z1q BK183.out 2).trans rfl
               have hfs50 := z0q BK183.out 2
               have hs51 : w47.cell? ⟨gb183, 3, none⟩ = some (.bool false) := (z1q BK183.out 3).trans rfl
               have hfs51 := z0q BK183.out 3
               have hs52 : w47.cell? ⟨gb183, 4, none⟩ = some (.int .i64 0) := (z1q BK183.out 4).trans rfl
               have hfs52 := z0q BK183.out 4
               have hs53 : w47.cell? ⟨gb183, 5, none⟩ = some (.int .i64 0) := (z1q BK183.out 5).trans rfl
               have hfs53 := z0q BK183.out 5
               have hs54 : w47.cell? ⟨gb183, 6, none⟩ = some (.string (⟨#[]⟩ : ByteArray)) := (z1q BK183.out 6).trans rfl
               have hfs54 := z0q BK183.out 6
               have hs55 : w47.cell? ⟨gb183, 7, none⟩ = some (.bool false) := (z1q BK183.out 7).trans rfl
               have hfs55 := z0q BK183.out 7
               refine skip_ (w1 := ?_) (by rfl) rfl ?_ ?_
               rotate_left
               ·go_simp
                rfl
               refine hK.out _ _ ⟨((z2q (p := ⟨gb183, _, none⟩) (by exact fcn hw181_0 GW183.out) _).trans (((z2q (p := ⟨gb183, _, none⟩) (by exact fcn hw181_0 GW183.out) _).trans (((z2q (p := ⟨gb183, _, none⟩) (by exact fcn hw181_0 GW183.out) _).trans (((z2q (p := ⟨gb183, _, none⟩) (by exact fcn hw181_0 GW183.out) _).trans (((z2q (p := ⟨gb183, _, none⟩) (by exact fcn hw181_0 GW183.out) _).trans (((z2q (p := ⟨gb183, _, none⟩) (by exact fcn hw181_0 GW183.out) _).trans (((z2q (p := ⟨gb183, _, none⟩) (by exact fcn hw181_0 GW183.out) _).trans (((z2q (p := ⟨gb183, _, none⟩) (by exact fcn hw181_0 GW183.out) _).trans (hHeld.1)))))))))))))))), ((z2q (p := ⟨gb183, _, none⟩) (by exact fcn hw181_1 GW183.out) _).trans (((z2q (p := ⟨gb183, _, none⟩) (by exact fcn hw181_1 GW183.out) _).trans (((z2q (p := ⟨gb183, _, none⟩) (by exact fcn hw181_1 GW183.out) _).trans (((z2q (p := ⟨gb183, _, none⟩) (by exact fcn hw181_1 GW183.out) _).trans (((z2q (p := ⟨gb183, _, none⟩) (by exact fcn hw181_1 GW183.out) _).trans (((z2q (p := ⟨gb183, _, none⟩) (by exact fcn hw181_1 GW183.out) _).trans (((z2q (p := ⟨gb183, _, none⟩) (by exact fcn hw181_1 GW183.out) _).trans (((z2q (p := ⟨gb183, _, none⟩) (by exact fcn hw181_1 GW183.out) _).trans (hHeld.2.1)))))))))))))))), ((z2q (p := ⟨gb183, _, none⟩) (by exact fcn hw181_2 GW183.out) _).trans (((z2q (p := ⟨gb183, _, none⟩) (by exact fcn hw181_2 GW183.out) _).trans (((z2q (p := ⟨gb183, _, none⟩) (by exact fcn hw181_2 GW183.out) _).trans (((z2q (p := ⟨gb183, _, none⟩) (by exact fcn hw181_2 GW183.out) _).trans (((z2q (p := ⟨gb183, _, none⟩) (by exact fcn hw181_2 GW183.out) _).trans (((z2q (p := ⟨gb183, _, none⟩) (by exact fcn hw181_2 GW183.out) _).trans (((z2q (p := ⟨gb183, _, none⟩) (by exact fcn hw181_2 GW183.out) _).trans (((z2q (p := ⟨gb183, _, none⟩) (by exact fcn hw181_2 GW183.out) _).trans (hHeld.2.2.1)))))))))))))))), ((z2q (p := ⟨gb183, _, none⟩) (by exact fcn hw181_3 GW183.out) _).trans (((z2q (p := ⟨gb183, _, none⟩) (by exact fcn hw181_3 GW183.out) _).trans (((z2q (p := ⟨gb183, _, none⟩) (by exact fcn hw181_3 GW183.out) _).trans (((z2q (p := ⟨gb183, _, none⟩) (by exact fcn hw181_3 GW183.out) _).trans (((z2q (p := ⟨gb183, _, none⟩) (by exact fcn hw181_3 GW183.out) _).trans (((z2q (p := ⟨gb183, _, none⟩) (by exact fcn hw181_3 GW183.out) _).trans (((z2q (p := ⟨gb183, _, none⟩) (by exact fcn hw181_3 GW183.out) _).trans (((z2q (p := ⟨gb183, _, none⟩) (by exact fcn hw181_3 GW183.out) _).trans (hHeld.2.2.2.1)))))))))))))))), ((z2q (p := ⟨gb183, _, none⟩) (by exact fcn hw181_4 GW183.out) _).trans (((z2q (p := ⟨gb183, _, none⟩) (by exact fcn hw181_4 GW183.out) _).trans (((z2q (p := ⟨gb183, _, none⟩) (by exact fcn hw181_4 GW183.out) _).trans (((z2q (p := ⟨gb183, _, none⟩) (by exact fcn hw181_4 GW183.out) _).trans (((z2q (p := ⟨gb183, _, none⟩) (by exact fcn hw181_4 GW183.out) _).trans (((z2q (p := ⟨gb183, _, none⟩) (by exact fcn hw181_4 GW183.out) _).trans (((z2q (p := ⟨gb183, _, none⟩) (by exact fcn hw181_4 GW183.out) _).trans (((z2q (p := ⟨gb183, _, none⟩) (by exact fcn hw181_4 GW183.out) _).trans (hHeld.2.2.2.2.1)))))))))))))))), ((z2q (p := ⟨gb183, _, none⟩) (by exact fcn hw181_5 GW183.out) _).trans (((z2q (p := ⟨gb183, _, none⟩) (by exact fcn hw181_5 GW183.out) _).trans (((z2q (p := ⟨gb183, _, none⟩) (by exact fcn hw181_5 GW183.out) _).trans (((z2q (p := ⟨gb183, _, none⟩) (by exact fcn hw181_5 GW183.out) _).trans (((z2q (p := ⟨gb183, _, none⟩) (by exact fcn hw181_5 GW183.out) _).trans (((z2q (p := ⟨gb183, _, none⟩) (by exact fcn hw181_5 GW183.out) _).trans (((z2q (p := ⟨gb183, _, none⟩) (by exact fcn hw181_5 GW183.out) _).trans (((z2q (p := ⟨gb183, _, none⟩) (by exact fcn hw181_5 GW183.out) _).trans (hHeld.2.2.2.2.2.1)))))))))))))))), ((z2q (p := ⟨gb183, _, none⟩) (by exact fcn hw181_6 GW183.out) _).trans (((z2q (p := ⟨gb183, _, none⟩) (by exact fcn hw181_6 GW183.out) _).trans (((z2q (p := ⟨gb183, _, none⟩) (by exact fcn hw181_6 GW183.out) _).trans (((z2q (p := ⟨gb183, _, none⟩) (by exact fcn hw181_6 GW183.out) _).trans (((z2q (p := ⟨gb183, _, none⟩) (by exact fcn hw181_6 GW183.out) _).trans (((z2q (p := ⟨gb183, _, none⟩) (by exact fcn hw181_6 GW183.out) _).trans (((z2q (p := ⟨gb183, _, none⟩) (by exact fcn hw181_6 GW183.out) _).trans (((z2q (p := ⟨gb183, _, none⟩) (by exact fcn hw181_6 GW183.out) _).trans (hHeld.2.2.2.2.2.2.1)))))))))))))))), ((z2q (p := ⟨gb183, _, none⟩) (by exact fcn hw181_7 GW183.out) _).trans (((z2q (p := ⟨gb183, _, none⟩) (by exact fcn hw181_7 GW183.out) _).trans (((z2q (p := ⟨gb183, _, none⟩) (by exact fcn hw181_7 GW183.out) _).trans (((z2q (p := ⟨gb183, _, none⟩) (by exact fcn hw181_7 GW183.out) _).trans (((z2q (p := ⟨gb183, _, none⟩) (by exact fcn hw181_7 GW183.out) _).trans (((z2q (p := ⟨gb183, _, none⟩) (by exact fcn hw181_7 GW183.out) _).trans (((z2q (p := ⟨gb183, _, none⟩) (by exact fcn hw181_7 GW183.out) _).trans (((z2q (p := ⟨gb183, _, none⟩) (by exact fcn hw181_7 GW183.out) _).trans (hHeld.2.2.2.2.2.2.2.1)))))))))))))))), ((z2q (p := ⟨gb183, _, none⟩) (by exact fcn hw182_0 GW183.out) _).trans (((z2q (p := ⟨gb183, _, none⟩) (by exact fcn hw182_0 GW183.out) _).trans (((z2q (p := ⟨gb183, _, none⟩) (by exact fcn hw182_0 GW183.out) _).trans (((z2q (p := ⟨gb183, _, none⟩) (by exact fcn hw182_0 GW183.out) _).trans (((z2q (p := ⟨gb183, _, none⟩) (by exact fcn hw182_0 GW183.out) _).trans (((z2q (p := ⟨gb183, _, none⟩) (by exact fcn hw182_0 GW183.out) _).trans (((z2q (p := ⟨gb183, _, none⟩) (by exact fcn hw182_0 GW183.out) _).trans (((z2q (p := ⟨gb183, _, none⟩) (by exact fcn hw182_0 GW183.out) _).trans (hHeld.2.2.2.2.2.2.2.2.1)))))))))))))))), ((z2q (p := ⟨gb183, _, none⟩) (by exact fcn hw182_1 GW183.out) _).trans (((z2q (p := ⟨gb183, _, none⟩) (by exact fcn hw182_1 GW183.out) _).trans (((z2q (p := ⟨gb183, _, none⟩) (by exact fcn hw182_1 GW183.out) _).trans (((z2q (p := ⟨gb183, _, none⟩) (by exact fcn hw182_1 GW183.out) _).trans (((z2q (p := ⟨gb183, _, none⟩) (by exact fcn hw182_1 GW183.out) _).trans (((z2q (p := ⟨gb183, _, none⟩) (by exact fcn hw182_1 GW183.out) _).trans (((z2q (p := ⟨gb183, _, none⟩) (by exact fcn hw182_1 GW183.out) _).trans (((z2q (p := ⟨gb183, _, none⟩) (by exact fcn hw182_1 GW183.out) _).trans (hHeld.2.2.2.2.2.2.2.2.2.1)))))))))))))))), ((z2q (p := ⟨gb183, _, none⟩) (by exact fcn hw182_2 GW183.out) _).trans (((z2q (p := ⟨gb183, _, none⟩) (by exact fcn hw182_2 GW183.out) _).trans (((z2q (p := ⟨gb183, _, none⟩) (by exact fcn hw182_2 GW183.out) _).trans (((z2q (p := ⟨gb183, _, none⟩) (by exact fcn hw182_2 GW183.out) _).trans (((z2q (p := ⟨gb183, _, none⟩) (by exact fcn hw182_2 GW183.out) _).trans (((z2q (p := ⟨gb183, _, none⟩) (by exact fcn hw182_2 GW183.out) _).trans (((z2q (p := ⟨gb183, _, none⟩) (by exact fcn hw182_2 GW183.out) _).trans (((z2q (p := ⟨gb183, _, none⟩) (by exact fcn hw182_2 GW183.out) _).trans (hHeld.2.2.2.2.2.2.2.2.2.2.1)))))))))))))))), ((z2q (p := ⟨gb183, _, none⟩) (by exact fcn hw182_3 GW183.out) _).trans (((z2q (p := ⟨gb183, _, none⟩) (by exact fcn hw182_3 GW183.out) _).trans (((z2q (p := ⟨gb183, _, none⟩) (by exact fcn hw182_3 GW183.out) _).trans (((z2q (p := ⟨gb183, _, none⟩) (by exact fcn hw182_3 GW183.out) _).trans (((z2q (p := ⟨gb183, _, none⟩) (by exact fcn hw182_3 GW183.out) _).trans (((z2q (p := ⟨gb183, _, none⟩) (by exact fcn hw182_3 GW183.out) _).trans (((z2q (p := ⟨gb183, _, none⟩) (by exact fcn hw182_3 GW183.out) _).trans (((z2q (p := ⟨gb183, _, none⟩) (by exact fcn hw182_3 GW183.out) _).trans (hHeld.2.2.2.2.2.2.2.2.2.2.2.1)))))))))))))))), ((z2q (p := ⟨gb183, _, none⟩) (by exact fcn hw182_4 GW183.out) _).trans (((z2q (p := ⟨gb183, _, none⟩) (by exact fcn hw182_4 GW183.out) _).trans (((z2q (p := ⟨gb183, _, none⟩) (by exact fcn hw182_4 GW183.out) _).trans (((z2q (p := ⟨gb183, _, none⟩) (by exact fcn hw182_4 GW183.out) _).trans (((z2q (p := ⟨gb183, _, none⟩) (by exact fcn hw182_4 GW183.out) _).trans (((z2q (p := ⟨gb183, _, none⟩) (by exact fcn hw182_4 GW183.out) _).trans (((z2q (p := ⟨gb183, _, none⟩) (by exact fcn hw182_4 GW183.out) _).trans (((z2q (p := ⟨gb183, _, none⟩) (by exact fcn hw182_4 GW183.out) _).trans (hHeld.2.2.2.2.2.2.2.2.2.2.2.2.1)))))))))))))))), ((z2q (p := ⟨gb183, _, none⟩) (by exact fcn hw182_5 GW183.out) _).trans (((z2q (p := ⟨gb183, _, none⟩) (by exact fcn hw182_5 GW183.out) _).trans (((z2q (p := ⟨gb183, _, none⟩) (by exact fcn hw182_5 GW183.out) _).trans (((z2q (p := ⟨gb183, _, none⟩) (by exact fcn hw182_5 GW183.out) _).trans (((z2q (p := ⟨gb183, _, none⟩) (by exact fcn hw182_5 GW183.out) _).trans (((z2q (p := ⟨gb183, _, none⟩) (by exact fcn hw182_5 GW183.out) _).trans (((z2q (p := ⟨gb183, _, none⟩) (by exact fcn hw182_5 GW183.out) _).trans (((z2q (p := ⟨gb183, _, none⟩) (by exact fcn hw182_5 GW183.out) _).trans (hHeld.2.2.2.2.2.2.2.2.2.2.2.2.2.1)))))))))))))))), ((z2q (p := ⟨gb183, _, none⟩) (by exact fcn hw182_6 GW183.out) _).trans (((z2q (p := ⟨gb183, _, none⟩) (by exact fcn hw182_6 GW183.out) _).trans (((z2q (p := ⟨gb183, _, none⟩) (by exact fcn hw182_6 GW183.out) _).trans (((z2q (p := ⟨gb183, _, none⟩) (by exact fcn hw182_6 GW183.out) _).trans (((z2q (p := ⟨gb183, _, none⟩) (by exact fcn hw182_6 GW183.out) _).trans (((z2q (p := ⟨gb183, _, none⟩) (by exact fcn hw182_6 GW183.out) _).trans (((z2q (p := ⟨gb183, _, none⟩) (by exact fcn hw182_6 GW183.out) _).trans (((z2q (p := ⟨gb183, _, none⟩) (by exact fcn hw182_6 GW183.out) _).trans (hHeld.2.2.2.2.2.2.2.2.2.2.2.2.2.2.1)))))))))))))))), ((z2q (p := ⟨gb183, _, none⟩) (by exact fcn hw182_7 GW183.out) _).trans (((z2q (p := ⟨gb183, _, none⟩) (by exact fcn hw182_7 GW183.out) _).trans (((z2q (p := ⟨gb183, _, none⟩) (by exact fcn hw182_7 GW183.out) _).trans (((z2q (p := ⟨gb183, _, none⟩) (by exact fcn hw182_7 GW183.out) _).trans (((z2q (p := ⟨gb183, _, none⟩) (by exact fcn hw182_7 GW183.out) _).trans (((z2q (p := ⟨gb183, _, none⟩) (by exact fcn hw182_7 GW183.out) _).trans (((z2q (p := ⟨gb183, _, none⟩) (by exact fcn hw182_7 GW183.out) _).trans (((z2q (p := ⟨gb183, _, none⟩) (by exact fcn hw182_7 GW183.out) _).trans (hHeld.2.2.2.2.2.2.2.2.2.2.2.2.2.2.2))))))))))))))))⟩ (fun hHeld => ?_)
               clear hK K
               refine done_ (done_of HT_.out (by kernel_rfl)) ?_
               try go_wp2
               have n0_ : Aside0 (Kd.R k107 107 ((((((((w47.setCell ⟨gb183, 0, none⟩ (.int .i64 ((rd_T107 l0 x6_2).f0))).setCell ⟨gb183, 1, none⟩ (.int .i64 ((rd_T107 l0 x6_2).f1))).setCell ⟨gb183, 2, none⟩ (.int .i64 0)).setCell ⟨gb183, 3, none⟩ (.bool false)).setCell ⟨gb183, 4, none⟩ (.int .i64 0)).setCell ⟨gb183, 5, none⟩ (.int .i64 0)).setCell ⟨gb183, 6, none⟩ (.string (⟨#[]⟩ : ByteArray))).setCell ⟨gb183, 7, none⟩ (.bool false)) w.heap.size (fun k_ => k_ ≠ gb183) u5 x5_2) := ⟨by (with_reducible repeat (first | apply Kd.R_alloc | apply Kd.R_drewN | apply Kd.R_drew)); exact Kd.R_mono (Kd.R_far (p := ⟨gb183, 7, none⟩) (Kd.R_far (p := ⟨gb183, 6, none⟩) (Kd.R_far (p := ⟨gb183, 5, none⟩) (Kd.R_far (p := ⟨gb183, 4, none⟩) (Kd.R_far (p := ⟨gb183, 3, none⟩) (Kd.R_far (p := ⟨gb183, 2, none⟩) (Kd.R_far (p := ⟨gb183, 1, none⟩) (Kd.R_far (p := ⟨gb183, 0, none⟩) (Kd.R_mono HO_5.out (fun k_ hk => (⟨hk, hk.2⟩ : _ ∧ k_ ≠ gb183))) (fun _ hk => hk.2) (.int .i64 ((rd_T107 l0 x6_2).f0))) (fun _ hk => hk.2) (.int .i64 ((rd_T107 l0 x6_2).f1))) (fun _ hk => hk.2) (.int .i64 0)) (fun _ hk => hk.2) (.bool false)) (fun _ hk => hk.2) (.int .i64 0)) (fun _ hk => hk.2) (.int .i64 0)) (fun _ hk => hk.2) (.string (⟨#[]⟩ : ByteArray))) (fun _ hk => hk.2) (.bool false)) (fun _ hk => hk.1.2)⟩
               have n1_ : Aside0 (((((((((w47.setCell ⟨gb183, 0, none⟩ (.int .i64 ((rd_T107 l0 x6_2).f0))).setCell ⟨gb183, 1, none⟩ (.int .i64 ((rd_T107 l0 x6_2).f1))).setCell ⟨gb183, 2, none⟩ (.int .i64 0)).setCell ⟨gb183, 3, none⟩ (.bool false)).setCell ⟨gb183, 4, none⟩ (.int .i64 0)).setCell ⟨gb183, 5, none⟩ (.int .i64 0)).setCell ⟨gb183, 6, none⟩ (.string (⟨#[]⟩ : ByteArray))).setCell ⟨gb183, 7, none⟩ (.bool false)).heap[gb183]? = some (.cells #[.int .i64 ((rd_T107 l0 x6_2).f0), .int .i64 ((rd_T107 l0 x6_2).f1), .int .i64 0, .bool false, .int .i64 0, .int .i64 0, .string (⟨#[]⟩ : ByteArray), .bool false] 107 (0, 0))) := ⟨by refine cz ?_; refine z10q (cs := #[.int .i64 ((rd_T107 l0 x6_2).f0), .int .i64 ((rd_T107 l0 x6_2).f1), .int .i64 0, .bool false, .int .i64 0, .int .i64 0, .string (⟨#[]⟩ : ByteArray), .bool false]) ?_ 7 _ rfl; refine cz ?_; refine z10q (cs := #[.int .i64 ((rd_T107 l0 x6_2).f0), .int .i64 ((rd_T107 l0 x6_2).f1), .int .i64 0, .bool false, .int .i64 0, .int .i64 0, .string (⟨#[]⟩ : ByteArray), .bool false]) ?_ 6 _ rfl; refine cz ?_; refine z10q (cs := #[.int .i64 ((rd_T107 l0 x6_2).f0), .int .i64 ((rd_T107 l0 x6_2).f1), .int .i64 0, .bool false, .int .i64 0, .int .i64 0, .string (⟨#[]⟩ : ByteArray), .bool false]) ?_ 5 _ rfl; refine cz ?_; refine z10q (cs := #[.int .i64 ((rd_T107 l0 x6_2).f0), .int .i64 ((rd_T107 l0 x6_2).f1), .int .i64 0, .bool false, .int .i64 0, .int .i64 0, .string (⟨#[]⟩ : ByteArray), .bool false]) ?_ 4 _ rfl; refine cz ?_; refine z10q (cs := #[.int .i64 ((rd_T107 l0 x6_2).f0), .int .i64 ((rd_T107 l0 x6_2).f1), .int .i64 0, .bool false, .int .i64 0, .int .i64 0, .string (⟨#[]⟩ : ByteArray), .bool false]) ?_ 3 _ rfl; refine cz ?_; refine z10q (cs := #[.int .i64 ((rd_T107 l0 x6_2).f0), .int .i64 ((rd_T107 l0 x6_2).f1), .int .i64 0, .bool false, .int .i64 0, .int .i64 0, .string (⟨#[]⟩ : ByteArray), .bool false]) ?_ 2 _ rfl; refine cz ?_; refine z10q (cs := #[.int .i64 ((rd_T107 l0 x6_2).f0), .int .i64 0, .int .i64 0, .bool false, .int .i64 0, .int .i64 0, .string (⟨#[]⟩ : ByteArray), .bool false]) ?_ 1 _ rfl; refine cz ?_; refine z10q (cs := #[.int .i64 0, .int .i64 0, .int .i64 0, .bool false, .int .i64 0, .int .i64 0, .string (⟨#[]⟩ : ByteArray), .bool false]) ?_ 0 _ rfl; (with_reducible repeat (first | refine z14q ?_ _ | refine z18q ?_ | refine z12q ?_ _)); exact BK183.out⟩
               have n2_ : Aside0 (Below w.heap.size w ((((((((w47.setCell ⟨gb183, 0, none⟩ (.int .i64 ((rd_T107 l0 x6_2).f0))).setCell ⟨gb183, 1, none⟩ (.int .i64 ((rd_T107 l0 x6_2).f1))).setCell ⟨gb183, 2, none⟩ (.int .i64 0)).setCell ⟨gb183, 3, none⟩ (.bool false)).setCell ⟨gb183, 4, none⟩ (.int .i64 0)).setCell ⟨gb183, 5, none⟩ (.int .i64 0)).setCell ⟨gb183, 6, none⟩ (.string (⟨#[]⟩ : ByteArray))).setCell ⟨gb183, 7, none⟩ (.bool false))) := ⟨by repeat (first | (with_reducible first | exact HB.out | apply z7q | apply z3q | apply z4q | refine z11q ?_ GE183.out) | exact HB.out)⟩
               (try clear HO_5)
               (try clear BK183)
               (try clear HB)
               generalize ((((((((w47.setCell ⟨gb183, 0, none⟩ (.int .i64 ((rd_T107 l0 x6_2).f0))).setCell ⟨gb183, 1, none⟩ (.int .i64 ((rd_T107 l0 x6_2).f1))).setCell ⟨gb183, 2, none⟩ (.int .i64 0)).setCell ⟨gb183, 3, none⟩ (.bool false)).setCell ⟨gb183, 4, none⟩ (.int .i64 0)).setCell ⟨gb183, 5, none⟩ (.int .i64 0)).setCell ⟨gb183, 6, none⟩ (.string (⟨#[]⟩ : ByteArray))).setCell ⟨gb183, 7, none⟩ (.bool false)) = w56 at n0_ n1_ n2_ ⊢
               have HO_5 := n0_
               have BK183 := n1_
               have HB := n2_
               clear n0_ n1_ n2_
               have n0_ := Aside0.mk (Kd.R_drew HO_5.out)
               have n1_ := Aside0.mk (z18q BK183.out)
               have n2_ := Aside0.mk (z4q HB.out)
               clear HO_5
               clear BK183
               clear HB
               have HO_5 := n0_
               have BK183 := n1_
               have HB := n2_
               clear n0_ n1_ n2_
               have p184 : 0 ≤ (x6_2 : Int) := of_decide_eq_true (by first | (with_reducible assumption) | assumption)
               have q184 : x6_2 < (l0.length : Int) := of_decide_eq_true (by first | (with_reducible assumption) | assumption)
               obtain ⟨ad184, e184, hx184_0, hx184_1, hx184_2, hx184_3, hx184_4, hx184_5, hx184_6, hx184_7⟩ := at_T107 HR0.out x6_2 p184 q184
               have hw184_7 := hx184_7
               have hw184_6 := hx184_6
               have hw184_5 := hx184_5
               have hw184_4 := hx184_4
               have hw184_3 := hx184_3
               have hw184_2 := hx184_2
               have hw184_1 := hx184_1
               have hw184_0 := hx184_0
               obtain rfl : ad181 = ad184 := (by injection e184)
               replace hx184_0 := (hbc HB.out hx184_0).trans hx184_0
               replace hx184_1 := (hbc HB.out hx184_1).trans hx184_1
               replace hx184_2 := (hbc HB.out hx184_2).trans hx184_2
               replace hx184_3 := (hbc HB.out hx184_3).trans hx184_3
               replace hx184_4 := (hbc HB.out hx184_4).trans hx184_4
               replace hx184_5 := (hbc HB.out hx184_5).trans hx184_5
               replace hx184_6 := (hbc HB.out hx184_6).trans hx184_6
               replace hx184_7 := (hbc HB.out hx184_7).trans hx184_7
               replace p184 := eq_true p184
               replace q184 := eq_true q184
               refine start_ (n := 6) (S := fun w' => w'.cell? ⟨gb183, 0, none⟩ = some (.int .i64 ((rd_T107 l0 x6_2).f0)) ∧ w'.cell? ⟨gb183, 1, none⟩ = some (.int .i64 ((rd_T107 l0 x6_2).f1)) ∧ w'.cell? ⟨gb183, 2, none⟩ = some (.int .i64 0) ∧ w'.cell? ⟨gb183, 3, none⟩ = some (.bool false) ∧ w'.cell? ⟨gb183, 4, none⟩ = some (.int .i64 0) ∧ w'.cell? ⟨gb183, 5, none⟩ = some (.int .i64 0) ∧ w'.cell? ⟨gb183, 6, none⟩ = some (.string (⟨#[]⟩ : ByteArray)) ∧ w'.cell? ⟨gb183, 7, none⟩ = some (.bool false) ∧ w'.cell? (ad181.add ((x6_2).toNat * 8)) = some (.int .i64 ((rd_T107 l0 x6_2).f0)) ∧ w'.cell? ⟨(ad181.add ((x6_2).toNat * 8)).block, (ad181.add ((x6_2).toNat * 8)).off + 1, none⟩ = some (.int .i64 ((rd_T107 l0 x6_2).f1)) ∧ w'.cell? ⟨(ad181.add ((x6_2).toNat * 8)).block, (ad181.add ((x6_2).toNat * 8)).off + 2, none⟩ = some (.int .i64 ((rd_T107 l0 x6_2).f2.f0)) ∧ w'.cell? ⟨(ad181.add ((x6_2).toNat * 8)).block, (ad181.add ((x6_2).toNat * 8)).off + 3, none⟩ = some (.bool ((rd_T107 l0 x6_2).f2.f1.f0)) ∧ w'.cell? ⟨(ad181.add ((x6_2).toNat * 8)).block, (ad181.add ((x6_2).toNat * 8)).off + 4, none⟩ = some (.int .i64 ((rd_T107 l0 x6_2).f2.f1.f1)) ∧ w'.cell? ⟨(ad181.add ((x6_2).toNat * 8)).block, (ad181.add ((x6_2).toNat * 8)).off + 5, none⟩ = some (.int .i64 ((rd_T107 l0 x6_2).f2.f1.f2)) ∧ w'.cell? ⟨(ad181.add ((x6_2).toNat * 8)).block, (ad181.add ((x6_2).toNat * 8)).off + 6, none⟩ = some (.string ((rd_T107 l0 x6_2).f2.f2)) ∧ w'.cell? ⟨(ad181.add ((x6_2).toNat * 8)).block, (ad181.add ((x6_2).toNat * 8)).off + 7, none⟩ = some (.bool ((rd_T107 l0 x6_2).f3))) (ds := []) bt4_66 (by kernel_rfl) rfl rfl ⟨(z1q BK183.out 0).trans rfl, (z1q BK183.out 1).trans rfl, (z1q BK183.out 2).trans rfl, (z1q BK183.out 3).trans rfl, (z1q BK183.out 4).trans rfl, (z1q BK183.out 5).trans rfl, (z1q BK183.out 6).trans rfl, (z1q BK183.out 7).trans rfl, (hbt HB.out hw184_0), (hbt HB.out hw184_1), (hbt HB.out hw184_2), (hbt HB.out hw184_3), (hbt HB.out hw184_4), (hbt HB.out hw184_5), (hbt HB.out hw184_6), (hbt HB.out hw184_7)⟩ (fun hHeld => ?_)
               generalize w56.drew = w57 at HO_5 BK183 HB hx184_0 hx184_1 hx184_2 hx184_3 hx184_4 hx184_5 hx184_6 hx184_7 hHeld ⊢
               refine pure_ (i := 0) (N := some 95) (v := ?_) (a' := ?_) bt4_67 rfl rfl (by kernel_rfl) (fun _ _ _ h => h) (Or.inl ⟨by rfl, ?_⟩) ?_ ?_
               rotate_left
               ·intro w'
                go_simp
                with_reducible rfl
               rotate_left
               ·simp only [Act.put, setIfInBounds_toArray, set_cons_zero, set_cons_succ, i64_w, i32_w]
                rfl
               refine pure_ (i := 1) (N := some 96) (v := ?_) (a' := ?_) bt4_68 rfl rfl (by kernel_rfl) (fun _ _ _ h => h) (Or.inl ⟨by rfl, ?_⟩) ?_ ?_
               rotate_left
               ·intro w'
                go_simp
                with_reducible rfl
               rotate_left
               ·simp only [Act.put, setIfInBounds_toArray, set_cons_zero, set_cons_succ, i64_w, i32_w]
                rfl
               refine pure_ (i := 2) (N := some 97) (v := ?_) (a' := ?_) bt4_69 rfl rfl (by kernel_rfl) (fun _ _ _ h => h) (Or.inl ⟨by rfl, ?_⟩) ?_ ?_
               rotate_left
               ·intro w'
                go_simp
                with_reducible rfl
               rotate_left
               ·simp only [Act.put, setIfInBounds_toArray, set_cons_zero, set_cons_succ, i64_w, i32_w]
                rfl
               refine take_ (i := 3) (N := some 98) (v := ?_) (a' := ?_) #[true, true, true, true, false, false] rfl rfl (by kernel_rfl) (fun _ _ _ h => h) (Or.inl ⟨by rfl, ?_⟩) hHeld ?_ ?_
               rotate_left
               ·rintro w' ⟨s0, s1, s2, s3, s4, s5, s6, s7, s8, s9, s10, s11, s12, s13, s14, s15⟩
                go_simp
                with_reducible rfl
               rotate_left
               ·simp only [Act.put, setIfInBounds_toArray, set_cons_zero, set_cons_succ, i64_w, i32_w]
                rfl
               refine take_ (i := 4) (N := some 99) (v := ?_) (a' := ?_) #[true, true, true, true, true, false] rfl rfl (by kernel_rfl) (fun _ _ _ h => h) (Or.inl ⟨by rfl, ?_⟩) hHeld ?_ ?_
               rotate_left
               ·rintro w' ⟨s0, s1, s2, s3, s4, s5, s6, s7, s8, s9, s10, s11, s12, s13, s14, s15⟩
                go_simp
                with_reducible rfl
               rotate_left
               ·simp only [Act.put, setIfInBounds_toArray, set_cons_zero, set_cons_succ, i64_w, i32_w]
                rfl
               refine pure_ (i := 5) (N := some 100) (v := ?_) (a' := ?_) #[true, true, true, true, true, true] rfl rfl (by kernel_rfl) (fun _ _ _ h => h) (Or.inl ⟨by rfl, ?_⟩) ?_ ?_
               rotate_left
               ·intro w'
                go_simp
                with_reducible rfl
               rotate_left
               ·simp only [Act.put, setIfInBounds_toArray, set_cons_zero, set_cons_succ, i64_w, i32_w]
                rfl
               refine done_ (by kernel_rfl) ?_
               try go_wp2
               go_roundg kj15
               case measure => have := HJ2.out; have := HK2.out; have := HJ12.out; have := HJ15.out; omega
               case rel => exact ⟨(x5_2), (wrap64 (x6_2 + 1)), (x7_2), (by first | rfl | (simp; done) | (simp [*]; done) | (simp; unfold wrap64; omega)), (by first | rfl | (simp; done) | (simp [*]; done) | (simp; unfold wrap64; omega)), H', ⟨by have := HJ2.out; have := HK2.out; have := HJ12.out; have := HJ15.out; omega⟩, ⟨by (with_reducible repeat (first | apply Kd.R_alloc | apply Kd.R_drewN | apply Kd.R_drew)); exact Kd.R_mono HO_5.out (fun _ hk => trivial)⟩, ⟨by repeat (first | (with_reducible first | exact HB.out | apply z7q | apply z3q | apply z4q | refine z11q ?_ GE183.out) | exact HB.out)⟩⟩
             ·rw [if_neg c29] at H
              exact absurd H (by simp)
            ·rw [if_neg c28] at H
             exact absurd H (by simp)
           ·replace c27 := Bool.eq_false_iff.mpr c27
            subst c27
            have H1 : (if x6_2 = (l0.length : Int) then (impl_Differ.j4 kj15 l0 l1 x5_2 x6_2 x7_2 true) else (if 0 ≤ x7_2 then (if x7_2 < (l1.length : Int) then (if 0 ≤ x6_2 then (if x6_2 < (l0.length : Int) then ((impl_place_before.f ((rd_T107 l1 x7_2).f0) ((rd_T107 l1 x7_2).f1) ((rd_T107 l0 x6_2).f0) ((rd_T107 l0 x6_2).f1)).bind fun t192 => (impl_Differ.j4 kj15 l0 l1 x5_2 x6_2 x7_2 t192)) else (none)) else (none)) else (none)) else (none))) = some r := by rw [if_neg (show ¬ (false = true) by decide)] at H; exact H
            clear H
            have H := H1
            clear H1
            have HC58 := Aside0.mk H
            clear H
            go_upto_region 16 with (fail)
            go_cut [107] (fun v107 wc => ∃ (kq : Nat) (x107_57 : Bool), v107 = .bool x107_57 ∧ Aside0 (impl_Differ.j4 kq l0 l1 x5_2 x6_2 x7_2 x107_57 = some r) ∧ Aside0 (kq ≤ kj15) ∧ Aside0 (Kd.R k107 107 wc w.heap.size (fun _ => True) u5 x5_2) ∧ Aside0 (Below w.heap.size w wc))
            case first =>
             have H := HC58.out
             clear HC58
             by_cases c59 : x6_2 = (l0.length : Int)
             ·as_aux_lemma =>
              rw [if_pos c59] at H
              have c59b0 : (x6_2 == (l0.length : Int)) = true := beq_iff_eq.mpr c59
              have c59b1 : (x6_2 != (l0.length : Int)) = false := bne_eq_false_iff_eq.mpr c59
              clear c59
              (first | rw [c59b0] | (simp only [i64_w, i32_w]; rw [c59b0]) | skip)
              have H' := Aside0.mk H
              clear H
              try go_wp2
              have n0_ := Aside0.mk (Kd.R_drew HO_5.out)
              have n1_ := Aside0.mk (z4q HB.out)
              clear HO_5
              clear HB
              have HO_5 := n0_
              have HB := n1_
              clear n0_ n1_
              refine start_ (n := 30) (S := fun w' => True) (ds := []) bt4_70 (by kernel_rfl) rfl rfl trivial (fun hHeld => ?_); refine with_tabW impl_Differ.tab16 impl_Differ.bits16 (fun HT_ HW_ => ?_)
              generalize wc.drew = w60 at HO_5 HB hHeld ⊢
              refine pure_ (i := 0) (N := some 108) (v := ?_) (a' := ?_) bt4_71 rfl rfl (z8q HT_.out (by kernel_rfl)) (fun _ _ _ h => h) (Or.inl ⟨by rfl, ?_⟩) ?_ ?_
              rotate_left
              ·intro w'
               go_simp
               with_reducible rfl
              rotate_left
              ·simp only [Act.put, setIfInBounds_toArray, set_cons_zero, set_cons_succ, i64_w, i32_w]
               rfl
              refine pure_ (i := 1) (N := some 109) (v := ?_) (a' := ?_) bt4_72 rfl rfl (z8q HT_.out (by kernel_rfl)) (fun _ _ _ h => h) (Or.inl ⟨by rfl, ?_⟩) ?_ ?_
              rotate_left
              ·intro w'
               go_simp
               with_reducible rfl
              rotate_left
              ·simp only [Act.put, setIfInBounds_toArray, set_cons_zero, set_cons_succ, i64_w, i32_w]
               rfl
              refine pure_ (i := 2) (N := some 110) (v := ?_) (a' := ?_) bt4_73 rfl rfl (z8q HT_.out (by kernel_rfl)) (fun _ _ _ h => h) (Or.inl ⟨by rfl, ?_⟩) ?_ ?_
              rotate_left
              ·intro w'
               go_simp
               with_reducible rfl
              rotate_left
              ·simp only [Act.put, setIfInBounds_toArray, set_cons_zero, set_cons_succ, i64_w, i32_w]
               rfl
              refine pure_ (i := 3) (N := some 111) (v := ?_) (a' := ?_) bt4_74 rfl rfl (z8q HT_.out (by kernel_rfl)) (fun _ _ _ h => h) (Or.inl ⟨by rfl, ?_⟩) ?_ ?_
              rotate_left
              ·intro w'
               go_simp
               with_reducible rfl
              rotate_left
              ·simp only [Act.put, setIfInBounds_toArray, set_cons_zero, set_cons_succ, i64_w, i32_w]
               rfl
              refine pure_ (i := 4) (N := some 112) (v := ?_) (a' := ?_) bt4_75 rfl rfl (z8q HT_.out (by kernel_rfl)) (fun _ _ _ h => h) (Or.inl ⟨by rfl, ?_⟩) ?_ ?_
              rotate_left
              ·intro w'
               go_simp
               with_reducible rfl
              rotate_left
              ·simp only [Act.put, setIfInBounds_toArray, set_cons_zero, set_cons_succ, i64_w, i32_w]
               rfl
              refine pure_ (i := 5) (N := some 113) (v := undef) (a' := ?_) bt4_76 rfl rfl (z8q HT_.out (by kernel_rfl)) (fun _ _ _ h => h) (Or.inr ⟨by rfl, rfl⟩) ?_ ?_
              rotate_left
              ·simp only [Act.put, setIfInBounds_toArray, set_cons_zero, set_cons_succ, i64_w, i32_w]
               rfl
              refine pure_ (i := 6) (N := some 114) (v := undef) (a' := ?_) bt4_77 rfl rfl (z8q HT_.out (by kernel_rfl)) (fun _ _ _ h => h) (Or.inr ⟨by rfl, rfl⟩) ?_ ?_
              rotate_left
              ·simp only [Act.put, setIfInBounds_toArray, set_cons_zero, set_cons_succ, i64_w, i32_w]
               rfl
              refine pure_ (i := 7) (N := some 115) (v := undef) (a' := ?_) bt4_78 rfl rfl (z8q HT_.out (by kernel_rfl)) (fun _ _ _ h => h) (Or.inr ⟨by rfl, rfl⟩) ?_ ?_
              rotate_left
              ·simp only [Act.put, setIfInBounds_toArray, set_cons_zero, set_cons_succ, i64_w, i32_w]
               rfl
              refine pure_ (i := 8) (N := some 116) (v := undef) (a' := ?_) bt4_79 rfl rfl (z8q HT_.out (by kernel_rfl)) (fun _ _ _ h => h) (Or.inr ⟨by rfl, rfl⟩) ?_ ?_
              rotate_left
              ·simp only [Act.put, setIfInBounds_toArray, set_cons_zero, set_cons_succ, i64_w, i32_w]
               rfl
              refine pure_ (i := 9) (N := some 117) (v := undef) (a' := ?_) bt4_80 rfl rfl (z8q HT_.out (by kernel_rfl)) (fun _ _ _ h => h) (Or.inr ⟨by rfl, rfl⟩) ?_ ?_
              rotate_left
              ·simp only [Act.put, setIfInBounds_toArray, set_cons_zero, set_cons_succ, i64_w, i32_w]
               rfl
              refine pure_ (i := 10) (N := some 118) (v := undef) (a' := ?_) bt4_81 rfl rfl (z8q HT_.out (by kernel_rfl)) (fun _ _ _ h => h) (Or.inr ⟨by rfl, rfl⟩) ?_ ?_
              rotate_left
              ·simp only [Act.put, setIfInBounds_toArray, set_cons_zero, set_cons_succ, i64_w, i32_w]
               rfl
              refine pure_ (i := 11) (N := some 119) (v := undef) (a' := ?_) bt4_82 rfl rfl (z8q HT_.out (by kernel_rfl)) (fun _ _ _ h => h) (Or.inr ⟨by rfl, rfl⟩) ?_ ?_
              rotate_left
              ·simp only [Act.put, setIfInBounds_toArray, set_cons_zero, set_cons_succ, i64_w, i32_w]
               rfl
              refine pure_ (i := 12) (N := some 120) (v := undef) (a' := ?_) bt4_83 rfl rfl (z8q HT_.out (by kernel_rfl)) (fun _ _ _ h => h) (Or.inr ⟨by rfl, rfl⟩) ?_ ?_
              rotate_left
              ·simp only [Act.put, setIfInBounds_toArray, set_cons_zero, set_cons_succ, i64_w, i32_w]
               rfl
              refine pure_ (i := 13) (N := some 121) (v := undef) (a' := ?_) bt4_84 rfl rfl (z8q HT_.out (by kernel_rfl)) (fun _ _ _ h => h) (Or.inr ⟨by rfl, rfl⟩) ?_ ?_
              rotate_left
              ·simp only [Act.put, setIfInBounds_toArray, set_cons_zero, set_cons_succ, i64_w, i32_w]
               rfl
              refine pure_ (i := 14) (N := some 122) (v := undef) (a' := ?_) bt4_85 rfl rfl (z8q HT_.out (by kernel_rfl)) (fun _ _ _ h => h) (Or.inr ⟨by rfl, rfl⟩) ?_ ?_
              rotate_left
              ·simp only [Act.put, setIfInBounds_toArray, set_cons_zero, set_cons_succ, i64_w, i32_w]
               rfl
              refine pure_ (i := 15) (N := some 123) (v := undef) (a' := ?_) bt4_86 rfl rfl (z8q HT_.out (by kernel_rfl)) (fun _ _ _ h => h) (Or.inr ⟨by rfl, rfl⟩) ?_ ?_
              rotate_left
              ·simp only [Act.put, setIfInBounds_toArray, set_cons_zero, set_cons_succ, i64_w, i32_w]
               rfl
              refine pure_ (i := 16) (N := some 124) (v := undef) (a' := ?_) bt4_87 rfl rfl (z8q HT_.out (by kernel_rfl)) (fun _ _ _ h => h) (Or.inr ⟨by rfl, rfl⟩) ?_ ?_
              rotate_left
              ·simp only [Act.put, setIfInBounds_toArray, set_cons_zero, set_cons_succ, i64_w, i32_w]
               rfl
              refine pure_ (i := 17) (N := some 125) (v := undef) (a' := ?_) bt4_88 rfl rfl (z8q HT_.out (by kernel_rfl)) (fun _ _ _ h => h) (Or.inr ⟨by rfl, rfl⟩) ?_ ?_
              rotate_left
              ·simp only [Act.put, setIfInBounds_toArray, set_cons_zero, set_cons_succ, i64_w, i32_w]
               rfl
              refine pure_ (i := 18) (N := some 126) (v := undef) (a' := ?_) bt4_89 rfl rfl (z8q HT_.out (by kernel_rfl)) (fun _ _ _ h => h) (Or.inr ⟨by rfl, rfl⟩) ?_ ?_
              rotate_left
              ·simp only [Act.put, setIfInBounds_toArray, set_cons_zero, set_cons_succ, i64_w, i32_w]
               rfl
              refine pure_ (i := 19) (N := some 127) (v := undef) (a' := ?_) bt4_90 rfl rfl (z8q HT_.out (by kernel_rfl)) (fun _ _ _ h => h) (Or.inr ⟨by rfl, rfl⟩) ?_ ?_
              rotate_left
              ·simp only [Act.put, setIfInBounds_toArray, set_cons_zero, set_cons_succ, i64_w, i32_w]
               rfl
              refine pure_ (i := 20) (N := some 128) (v := undef) (a' := ?_) bt4_91 rfl rfl (z8q HT_.out (by kernel_rfl)) (fun _ _ _ h => h) (Or.inr ⟨by rfl, rfl⟩) ?_ ?_
              rotate_left
              ·simp only [Act.put, setIfInBounds_toArray, set_cons_zero, set_cons_succ, i64_w, i32_w]
               rfl
              refine pure_ (i := 21) (N := some 129) (v := undef) (a' := ?_) bt4_92 rfl rfl (z8q HT_.out (by kernel_rfl)) (fun _ _ _ h => h) (Or.inr ⟨by rfl, rfl⟩) ?_ ?_
              rotate_left
              ·simp only [Act.put, setIfInBounds_toArray, set_cons_zero, set_cons_succ, i64_w, i32_w]
               rfl
              refine pure_ (i := 22) (N := some 130) (v := undef) (a' := ?_) bt4_93 rfl rfl (z8q HT_.out (by kernel_rfl)) (fun _ _ _ h => h) (Or.inr ⟨by rfl, rfl⟩) ?_ ?_
              rotate_left
              ·simp only [Act.put, setIfInBounds_toArray, set_cons_zero, set_cons_succ, i64_w, i32_w]
               rfl
              refine pure_ (i := 23) (N := some 131) (v := undef) (a' := ?_) bt4_94 rfl rfl (z8q HT_.out (by kernel_rfl)) (fun _ _ _ h => h) (Or.inr ⟨by rfl, rfl⟩) ?_ ?_
              rotate_left
              ·simp only [Act.put, setIfInBounds_toArray, set_cons_zero, set_cons_succ, i64_w, i32_w]
               rfl
              refine pure_ (i := 24) (N := some 132) (v := undef) (a' := ?_) bt4_95 rfl rfl (z8q HT_.out (by kernel_rfl)) (fun _ _ _ h => h) (Or.inr ⟨by rfl, rfl⟩) ?_ ?_
              rotate_left
              ·simp only [Act.put, setIfInBounds_toArray, set_cons_zero, set_cons_succ, i64_w, i32_w]
               rfl
              refine pure_ (i := 25) (N := some 133) (v := undef) (a' := ?_) bt4_96 rfl rfl (z8q HT_.out (by kernel_rfl)) (fun _ _ _ h => h) (Or.inr ⟨by rfl, rfl⟩) ?_ ?_
              rotate_left
              ·simp only [Act.put, setIfInBounds_toArray, set_cons_zero, set_cons_succ, i64_w, i32_w]
               rfl
              refine pure_ (i := 26) (N := some 134) (v := undef) (a' := ?_) bt4_97 rfl rfl (z8q HT_.out (by kernel_rfl)) (fun _ _ _ h => h) (Or.inr ⟨by rfl, rfl⟩) ?_ ?_
              rotate_left
              ·simp only [Act.put, setIfInBounds_toArray, set_cons_zero, set_cons_succ, i64_w, i32_w]
               rfl
              refine pure_ (i := 27) (N := some 135) (v := undef) (a' := ?_) bt4_98 rfl rfl (z8q HT_.out (by kernel_rfl)) (fun _ _ _ h => h) (Or.inr ⟨by rfl, rfl⟩) ?_ ?_
              rotate_left
              ·simp only [Act.put, setIfInBounds_toArray, set_cons_zero, set_cons_succ, i64_w, i32_w]
               rfl
              refine pure_ (i := 28) (N := some 136) (v := ?_) (a' := ?_) bt4_99 rfl rfl (z8q HT_.out (by kernel_rfl)) (fun _ _ _ h => h) (Or.inl ⟨by rfl, ?_⟩) ?_ ?_
              rotate_left
              ·intro w'
               go_simp
               with_reducible rfl
              rotate_left
              ·simp only [Act.put, setIfInBounds_toArray, set_cons_zero, set_cons_succ, i64_w, i32_w]
               rfl
              refine pure_ (i := 29) (N := some 107) (v := ?_) (a' := ?_) bt4_100 rfl rfl (z8q HT_.out (by kernel_rfl)) (fun _ _ _ h => h) (Or.inl ⟨by rfl, ?_⟩) ?_ ?_
              rotate_left
              ·intro w'
               go_simp
               with_reducible rfl
              rotate_left
              ·simp only [Act.put, setIfInBounds_toArray, set_cons_zero, set_cons_succ, i64_w, i32_w]
               rfl
              refine done_ (done_of HT_.out (by kernel_rfl)) ?_
              try go_wp2
              go_meet
              case rel => exact ⟨_, (true), (by first | rfl | (simp; done) | (simp [*]; done) | (simp; unfold wrap64; omega)), H', ⟨by have := HJ2.out; have := HK2.out; have := HJ12.out; have := HJ15.out; first | omega | exact Nat.le_refl _⟩, ⟨by (with_reducible repeat (first | apply Kd.R_alloc | apply Kd.R_drewN | apply Kd.R_drew)); exact HO_5.out⟩, ⟨by repeat (first | (with_reducible first | exact HB.out | apply z7q | apply z3q | apply z4q) | exact HB.out)⟩⟩
             ·rw [if_neg c59] at H
              have c59b0 : (x6_2 == (l0.length : Int)) = false := beq_eq_false_iff_ne.mpr c59
              have c59b1 : (x6_2 != (l0.length : Int)) = true := bne_iff_ne.mpr c59
              (first | rw [c59b0] | (simp only [i64_w, i32_w]; rw [c59b0]) | skip)
              by_cases c61 : 0 ≤ x7_2
              ·rw [if_pos c61] at H
               have c61b0 : decide (0 ≤ x7_2) = true := decide_eq_true c61
               clear c61
               by_cases c62 : x7_2 < (l1.length : Int)
               ·rw [if_pos c62] at H
                have c62b0 : decide (x7_2 < (l1.length : Int)) = true := decide_eq_true c62
                clear c62
                by_cases c63 : 0 ≤ x6_2
                ·rw [if_pos c63] at H
                 have c63b0 : decide (0 ≤ x6_2) = true := decide_eq_true c63
                 clear c63
                 by_cases c64 : x6_2 < (l0.length : Int)
                 ·as_aux_lemma =>
                  rw [if_pos c64] at H
                  have c64b0 : decide (x6_2 < (l0.length : Int)) = true := decide_eq_true c64
                  clear c64
                  replace H := Option.bind_eq_some_iff.mp H
                  obtain ⟨t192, A650, H⟩ := H
                  replace H : (impl_Differ.j4 kj15 l0 l1 x5_2 x6_2 x7_2 t192) = some r := H
                  have A65 := Aside0.mk A650
                  clear A650
                  have H' := Aside0.mk H
                  clear H
                  try go_wp2
                  have n0_ := Aside0.mk (Kd.R_drew HO_5.out)
                  have n1_ := Aside0.mk (z4q HB.out)
                  clear HO_5
                  clear HB
                  have HO_5 := n0_
                  have HB := n1_
                  clear n0_ n1_
                  have p188 : 0 ≤ (x7_2 : Int) := of_decide_eq_true (by first | (with_reducible assumption) | assumption)
                  have q188 : x7_2 < (l1.length : Int) := of_decide_eq_true (by first | (with_reducible assumption) | assumption)
                  obtain ⟨ad188, e188, hx188_0, hx188_1, hx188_2, hx188_3, hx188_4, hx188_5, hx188_6, hx188_7⟩ := at_T107 HR1.out x7_2 p188 q188
                  have hw188_7 := hx188_7
                  have hw188_6 := hx188_6
                  have hw188_5 := hx188_5
                  have hw188_4 := hx188_4
                  have hw188_3 := hx188_3
                  have hw188_2 := hx188_2
                  have hw188_1 := hx188_1
                  have hw188_0 := hx188_0
                  cases e188
                  replace hx188_0 := (hbc HB.out hx188_0).trans hx188_0
                  replace hx188_1 := (hbc HB.out hx188_1).trans hx188_1
                  replace hx188_2 := (hbc HB.out hx188_2).trans hx188_2
                  replace hx188_3 := (hbc HB.out hx188_3).trans hx188_3
                  replace hx188_4 := (hbc HB.out hx188_4).trans hx188_4
                  replace hx188_5 := (hbc HB.out hx188_5).trans hx188_5
                  replace hx188_6 := (hbc HB.out hx188_6).trans hx188_6
                  replace hx188_7 := (hbc HB.out hx188_7).trans hx188_7
                  replace p188 := eq_true p188
                  replace q188 := eq_true q188
                  have p189 : 0 ≤ (x7_2 : Int) := of_decide_eq_true (by first | (with_reducible assumption) | assumption)
                  have q189 : x7_2 < (l1.length : Int) := of_decide_eq_true (by first | (with_reducible assumption) | assumption)
                  obtain ⟨ad189, e189, hx189_0, hx189_1, hx189_2, hx189_3, hx189_4, hx189_5, hx189_6, hx189_7⟩ := at_T107 HR1.out x7_2 p189 q189
                  have hw189_7 := hx189_7
                  have hw189_6 := hx189_6
                  have hw189_5 := hx189_5
                  have hw189_4 := hx189_4
                  have hw189_3 := hx189_3
                  have hw189_2 := hx189_2
                  have hw189_1 := hx189_1
                  have hw189_0 := hx189_0
                  obtain rfl : ad188 = ad189 := (by injection e189)
                  replace hx189_0 := (hbc HB.out hx189_0).trans hx189_0
                  replace hx189_1 := (hbc HB.out hx189_1).trans hx189_1
                  replace hx189_2 := (hbc HB.out hx189_2).trans hx189_2
                  replace hx189_3 := (hbc HB.out hx189_3).trans hx189_3
                  replace hx189_4 := (hbc HB.out hx189_4).trans hx189_4
                  replace hx189_5 := (hbc HB.out hx189_5).trans hx189_5
                  replace hx189_6 := (hbc HB.out hx189_6).trans hx189_6
                  replace hx189_7 := (hbc HB.out hx189_7).trans hx189_7
                  replace p189 := eq_true p189
                  replace q189 := eq_true q189
                  have p190 : 0 ≤ (x6_2 : Int) := of_decide_eq_true (by first | (with_reducible assumption) | assumption)
                  have q190 : x6_2 < (l0.length : Int) := of_decide_eq_true (by first | (with_reducible assumption) | assumption)
                  obtain ⟨ad190, e190, hx190_0, hx190_1, hx190_2, hx190_3, hx190_4, hx190_5, hx190_6, hx190_7⟩ := at_T107 HR0.out x6_2 p190 q190
                  have hw190_7 := hx190_7
                  have hw190_6 := hx190_6
                  have hw190_5 := hx190_5
                  have hw190_4 := hx190_4
                  have hw190_3 := hx190_3
                  have hw190_2 := hx190_2
                  have hw190_1 := hx190_1
                  have hw190_0 := hx190_0
                  cases e190
                  replace hx190_0 := (hbc HB.out hx190_0).trans hx190_0
                  replace hx190_1 := (hbc HB.out hx190_1).trans hx190_1
                  replace hx190_2 := (hbc HB.out hx190_2).trans hx190_2
                  replace hx190_3 := (hbc HB.out hx190_3).trans hx190_3
                  replace hx190_4 := (hbc HB.out hx190_4).trans hx190_4
                  replace hx190_5 := (hbc HB.out hx190_5).trans hx190_5
                  replace hx190_6 := (hbc HB.out hx190_6).trans hx190_6
                  replace hx190_7 := (hbc HB.out hx190_7).trans hx190_7
                  replace p190 := eq_true p190
                  replace q190 := eq_true q190
                  have p191 : 0 ≤ (x6_2 : Int) := of_decide_eq_true (by first | (with_reducible assumption) | assumption)
                  have q191 : x6_2 < (l0.length : Int) := of_decide_eq_true (by first | (with_reducible assumption) | assumption)
                  obtain ⟨ad191, e191, hx191_0, hx191_1, hx191_2, hx191_3, hx191_4, hx191_5, hx191_6, hx191_7⟩ := at_T107 HR0.out x6_2 p191 q191
                  have hw191_7 := hx191_7
                  have hw191_6 := hx191_6
                  have hw191_5 := hx191_5
                  have hw191_4 := hx191_4
                  have hw191_3 := hx191_3
                  have hw191_2 := hx191_2
                  have hw191_1 := hx191_1
                  have hw191_0 := hx191_0
                  obtain rfl : ad190 = ad191 := (by injection e191)
                  replace hx191_0 := (hbc HB.out hx191_0).trans hx191_0
                  replace hx191_1 := (hbc HB.out hx191_1).trans hx191_1
                  replace hx191_2 := (hbc HB.out hx191_2).trans hx191_2
                  replace hx191_3 := (hbc HB.out hx191_3).trans hx191_3
                  replace hx191_4 := (hbc HB.out hx191_4).trans hx191_4
                  replace hx191_5 := (hbc HB.out hx191_5).trans hx191_5
                  replace hx191_6 := (hbc HB.out hx191_6).trans hx191_6
                  replace hx191_7 := (hbc HB.out hx191_7).trans hx191_7
                  replace p191 := eq_true p191
                  replace q191 := eq_true q191
                  refine start_ (n := 30) (S := fun w' => w'.cell? (ad188.add ((x7_2).toNat * 8)) = some (.int .i64 ((rd_T107 l1 x7_2).f0)) ∧ w'.cell? ⟨(ad188.add ((x7_2).toNat * 8)).block, (ad188.add ((x7_2).toNat * 8)).off + 1, none⟩ = some (.int .i64 ((rd_T107 l1 x7_2).f1)) ∧ w'.cell? ⟨(ad188.add ((x7_2).toNat * 8)).block, (ad188.add ((x7_2).toNat * 8)).off + 2, none⟩ = some (.int .i64 ((rd_T107 l1 x7_2).f2.f0)) ∧ w'.cell? ⟨(ad188.add ((x7_2).toNat * 8)).block, (ad188.add ((x7_2).toNat * 8)).off + 3, none⟩ = some (.bool ((rd_T107 l1 x7_2).f2.f1.f0)) ∧ w'.cell? ⟨(ad188.add ((x7_2).toNat * 8)).block, (ad188.add ((x7_2).toNat * 8)).off + 4, none⟩ = some (.int .i64 ((rd_T107 l1 x7_2).f2.f1.f1)) ∧ w'.cell? ⟨(ad188.add ((x7_2).toNat * 8)).block, (ad188.add ((x7_2).toNat * 8)).off + 5, none⟩ = some (.int .i64 ((rd_T107 l1 x7_2).f2.f1.f2)) ∧ w'.cell? ⟨(ad188.add ((x7_2).toNat * 8)).block, (ad188.add ((x7_2).toNat * 8)).off + 6, none⟩ = some (.string ((rd_T107 l1 x7_2).f2.f2)) ∧ w'.cell? ⟨(ad188.add ((x7_2).toNat * 8)).block, (ad188.add ((x7_2).toNat * 8)).off + 7, none⟩ = some (.bool ((rd_T107 l1 x7_2).f3)) ∧ w'.cell? (ad188.add ((x7_2).toNat * 8)) = some (.int .i64 ((rd_T107 l1 x7_2).f0)) ∧ w'.cell? ⟨(ad188.add ((x7_2).toNat * 8)).block, (ad188.add ((x7_2).toNat * 8)).off + 1, none⟩ = some (.int .i64 ((rd_T107 l1 x7_2).f1)) ∧ w'.cell? ⟨(ad188.add ((x7_2).toNat * 8)).block, (ad188.add ((x7_2).toNat * 8)).off + 2, none⟩ = some (.int .i64 ((rd_T107 l1 x7_2).f2.f0)) ∧ w'.cell? ⟨(ad188.add ((x7_2).toNat * 8)).block, (ad188.add ((x7_2).toNat * 8)).off + 3, none⟩ = some (.bool ((rd_T107 l1 x7_2).f2.f1.f0)) ∧ w'.cell? ⟨(ad188.add ((x7_2).toNat * 8)).block, (ad188.add ((x7_2).toNat * 8)).off + 4, none⟩ = some (.int .i64 ((rd_T107 l1 x7_2).f2.f1.f1)) ∧ w'.cell? ⟨(ad188.add ((x7_2).toNat * 8)).block, (ad188.add ((x7_2).toNat * 8)).off + 5, none⟩ = some (.int .i64 ((rd_T107 l1 x7_2).f2.f1.f2)) ∧ w'.cell? ⟨(ad188.add ((x7_2).toNat * 8)).block, (ad188.add ((x7_2).toNat * 8)).off + 6, none⟩ = some (.string ((rd_T107 l1 x7_2).f2.f2)) ∧ w'.cell? ⟨(ad188.add ((x7_2).toNat * 8)).block, (ad188.add ((x7_2).toNat * 8)).off + 7, none⟩ = some (.bool ((rd_T107 l1 x7_2).f3)) ∧ w'.cell? (ad190.add ((x6_2).toNat * 8)) = some (.int .i64 ((rd_T107 l0 x6_2).f0)) ∧ w'.cell? ⟨(ad190.add ((x6_2).toNat * 8)).block, (ad190.add ((x6_2).toNat * 8)).off + 1, none⟩ = some (.int .i64 ((rd_T107 l0 x6_2).f1)) ∧ w'.cell? ⟨(ad190.add ((x6_2).toNat * 8)).block, (ad190.add ((x6_2).toNat * 8)).off + 2, none⟩ = some (.int .i64 ((rd_T107 l0 x6_2).f2.f0)) ∧ w'.cell? ⟨(ad190.add ((x6_2).toNat * 8)).block, (ad190.add ((x6_2).toNat * 8)).off + 3, none⟩ = some (.bool ((rd_T107 l0 x6_2).f2.f1.f0)) ∧ w'.cell? ⟨(ad190.add ((x6_2).toNat * 8)).block, (ad190.add ((x6_2).toNat * 8)).off + 4, none⟩ = some (.int .i64 ((rd_T107 l0 x6_2).f2.f1.f1)) ∧ w'.cell? ⟨(ad190.add ((x6_2).toNat * 8)).block, (ad190.add ((x6_2).toNat * 8)).off + 5, none⟩ = some (.int .i64 ((rd_T107 l0 x6_2).f2.f1.f2)) ∧ w'.cell? ⟨(ad190.add ((x6_2).toNat * 8)).block, (ad190.add ((x6_2).toNat * 8)).off + 6, none⟩ = some (.string ((rd_T107 l0 x6_2).f2.f2)) ∧ w'.cell? ⟨(ad190.add ((x6_2).toNat * 8)).block, (ad190.add ((x6_2).toNat * 8)).off + 7, none⟩ = some (.bool ((rd_T107 l0 x6_2).f3)) ∧ w'.cell? (ad190.add ((x6_2).toNat * 8)) = some (.int .i64 ((rd_T107 l0 x6_2).f0)) ∧ w'.cell? ⟨(ad190.add ((x6_2).toNat * 8)).block, (ad190.add ((x6_2).toNat * 8)).off + 1, none⟩ = some (.int .i64 ((rd_T107 l0 x6_2).f1)) ∧ w'.cell? ⟨(ad190.add ((x6_2).toNat * 8)).block, (ad190.add ((x6_2).toNat * 8)).off + 2, none⟩ = some (.int .i64 ((rd_T107 l0 x6_2).f2.f0)) ∧ w'.cell? ⟨(ad190.add ((x6_2).toNat * 8)).block, (ad190.add ((x6_2).toNat * 8)).off + 3, none⟩ = some (.bool ((rd_T107 l0 x6_2).f2.f1.f0)) ∧ w'.cell? ⟨(ad190.add ((x6_2).toNat * 8)).block, (ad190.add ((x6_2).toNat * 8)).off + 4, none⟩ = some (.int .i64 ((rd_T107 l0 x6_2).f2.f1.f1)) ∧ w'.cell? ⟨(ad190.add ((x6_2).toNat * 8)).block, (ad190.add ((x6_2).toNat * 8)).off + 5, none⟩ = some (.int .i64 ((rd_T107 l0 x6_2).f2.f1.f2)) ∧ w'.cell? ⟨(ad190.add ((x6_2).toNat * 8)).block, (ad190.add ((x6_2).toNat * 8)).off + 6, none⟩ = some (.string ((rd_T107 l0 x6_2).f2.f2)) ∧ w'.cell? ⟨(ad190.add ((x6_2).toNat * 8)).block, (ad190.add ((x6_2).toNat * 8)).off + 7, none⟩ = some (.bool ((rd_T107 l0 x6_2).f3))) (ds := []) bt4_70 (by kernel_rfl) rfl rfl ⟨(hbt HB.out hw188_0), (hbt HB.out hw188_1), (hbt HB.out hw188_2), (hbt HB.out hw188_3), (hbt HB.out hw188_4), (hbt HB.out hw188_5), (hbt HB.out hw188_6), (hbt HB.out hw188_7), (hbt HB.out hw189_0), (hbt HB.out hw189_1), (hbt HB.out hw189_2), (hbt HB.out hw189_3), (hbt HB.out hw189_4), (hbt HB.out hw189_5), (hbt HB.out hw189_6), (hbt HB.out hw189_7), (hbt HB.out hw190_0), (hbt HB.out hw190_1), (hbt HB.out hw190_2), (hbt HB.out hw190_3), (hbt HB.out hw190_4), (hbt HB.out hw190_5), (hbt HB.out hw190_6), (hbt HB.out hw190_7), (hbt HB.out hw191_0), (hbt HB.out hw191_1), (hbt HB.out hw191_2), (hbt HB.out hw191_3), (hbt HB.out hw191_4), (hbt HB.out hw191_5), (hbt HB.out hw191_6), (hbt HB.out hw191_7)⟩ (fun hHeld => ?_); refine with_tabW impl_Differ.tab16 impl_Differ.bits16 (fun HT_ HW_ => ?_)
                  generalize wc.drew = w66 at HO_5 HB hx188_0 hx188_1 hx188_2 hx188_3 hx188_4 hx188_5 hx188_6 hx188_7 hx189_0 hx189_1 hx189_2 hx189_3 hx189_4 hx189_5 hx189_6 hx189_7 hx190_0 hx190_1 hx190_2 hx190_3 hx190_4 hx190_5 hx190_6 hx190_7 hx191_0 hx191_1 hx191_2 hx191_3 hx191_4 hx191_5 hx191_6 hx191_7 hHeld ⊢
                  refine pure_ (i := 0) (N := some 108) (v := ?_) (a' := ?_) bt4_71 rfl rfl (z8q HT_.out (by kernel_rfl)) (fun _ _ _ h => h) (Or.inl ⟨by rfl, ?_⟩) ?_ ?_
                  rotate_left
                  ·intro w'
                   go_simp
                   with_reducible rfl
                  rotate_left
                  ·simp only [Act.put, setIfInBounds_toArray, set_cons_zero, set_cons_succ, i64_w, i32_w]
                   rfl
                  refine pure_ (i := 1) (N := some 109) (v := ?_) (a' := ?_) bt4_72 rfl rfl (z8q HT_.out (by kernel_rfl)) (fun _ _ _ h => h) (Or.inl ⟨by rfl, ?_⟩) ?_ ?_
                  rotate_left
                  ·intro w'
                   go_simp
                   with_reducible rfl
                  rotate_left
                  ·simp only [Act.put, setIfInBounds_toArray, set_cons_zero, set_cons_succ, i64_w, i32_w]
                   rfl
                  refine pure_ (i := 2) (N := some 110) (v := ?_) (a' := ?_) bt4_73 rfl rfl (z8q HT_.out (by kernel_rfl)) (fun _ _ _ h => h) (Or.inl ⟨by rfl, ?_⟩) ?_ ?_
                  rotate_left
                  ·intro w'
                   go_simp
                   with_reducible rfl
                  rotate_left
                  ·simp only [Act.put, setIfInBounds_toArray, set_cons_zero, set_cons_succ, i64_w, i32_w]
                   rfl
                  refine pure_ (i := 3) (N := some 111) (v := ?_) (a' := ?_) bt4_74 rfl rfl (z8q HT_.out (by kernel_rfl)) (fun _ _ _ h => h) (Or.inl ⟨by rfl, ?_⟩) ?_ ?_
                  rotate_left
                  ·intro w'
                   go_simp
                   with_reducible rfl
                  rotate_left
                  ·simp only [Act.put, setIfInBounds_toArray, set_cons_zero, set_cons_succ, i64_w, i32_w]
                   rfl
                  refine pure_ (i := 4) (N := some 112) (v := ?_) (a' := ?_) bt4_75 rfl rfl (z8q HT_.out (by kernel_rfl)) (fun _ _ _ h => h) (Or.inl ⟨by rfl, ?_⟩) ?_ ?_
                  rotate_left
                  ·intro w'
                   go_simp
                   with_reducible rfl
                  rotate_left
                  ·simp only [Act.put, setIfInBounds_toArray, set_cons_zero, set_cons_succ, i64_w, i32_w]
                   rfl
                  refine pure_ (i := 5) (N := some 113) (v := ?_) (a' := ?_) bt4_76 rfl rfl (z8q HT_.out (by kernel_rfl)) (fun _ _ _ h => h) (Or.inl ⟨by rfl, ?_⟩) ?_ ?_
                  rotate_left
                  ·intro w'
                   go_simp
                   with_reducible rfl
                  rotate_left
                  ·simp only [Act.put, setIfInBounds_toArray, set_cons_zero, set_cons_succ, i64_w, i32_w]
                   rfl
                  refine pure_ (i := 6) (N := some 114) (v := ?_) (a' := ?_) bt4_77 rfl rfl (z8q HT_.out (by kernel_rfl)) (fun _ _ _ h => h) (Or.inl ⟨by rfl, ?_⟩) ?_ ?_
                  rotate_left
                  ·intro w'
                   go_simp
                   with_reducible rfl
                  rotate_left
                  ·simp only [Act.put, setIfInBounds_toArray, set_cons_zero, set_cons_succ, i64_w, i32_w]
                   rfl
                  refine pure_ (i := 7) (N := some 115) (v := ?_) (a' := ?_) bt4_78 rfl rfl (z8q HT_.out (by kernel_rfl)) (fun _ _ _ h => h) (Or.inl ⟨by rfl, ?_⟩) ?_ ?_
                  rotate_left
                  ·intro w'
                   go_simp
                   with_reducible rfl
                  rotate_left
                  ·simp only [Act.put, setIfInBounds_toArray, set_cons_zero, set_cons_succ, i64_w, i32_w]
                   rfl
                  refine pure_ (i := 8) (N := some 116) (v := ?_) (a' := ?_) bt4_79 rfl rfl (z8q HT_.out (by kernel_rfl)) (fun _ _ _ h => h) (Or.inl ⟨by rfl, ?_⟩) ?_ ?_
                  rotate_left
                  ·intro w'
                   go_simp
                   with_reducible rfl
                  rotate_left
                  ·simp only [Act.put, setIfInBounds_toArray, set_cons_zero, set_cons_succ, i64_w, i32_w]
                   rfl
                  refine pure_ (i := 10) (N := some 118) (v := ?_) (a' := ?_) bt4_101 rfl rfl (z8q HT_.out (by kernel_rfl)) (fun _ _ _ h => h) (Or.inl ⟨by rfl, ?_⟩) ?_ ?_
                  rotate_left
                  ·intro w'
                   go_simp
                   with_reducible rfl
                  rotate_left
                  ·simp only [Act.put, setIfInBounds_toArray, set_cons_zero, set_cons_succ, i64_w, i32_w]
                   rfl
                  refine pure_ (i := 11) (N := some 119) (v := ?_) (a' := ?_) bt4_102 rfl rfl (z8q HT_.out (by kernel_rfl)) (fun _ _ _ h => h) (Or.inl ⟨by rfl, ?_⟩) ?_ ?_
                  rotate_left
                  ·intro w'
                   go_simp
                   with_reducible rfl
                  rotate_left
                  ·simp only [Act.put, setIfInBounds_toArray, set_cons_zero, set_cons_succ, i64_w, i32_w]
                   rfl
                  refine pure_ (i := 12) (N := some 120) (v := ?_) (a' := ?_) bt4_103 rfl rfl (z8q HT_.out (by kernel_rfl)) (fun _ _ _ h => h) (Or.inl ⟨by rfl, ?_⟩) ?_ ?_
                  rotate_left
                  ·intro w'
                   go_simp
                   with_reducible rfl
                  rotate_left
                  ·simp only [Act.put, setIfInBounds_toArray, set_cons_zero, set_cons_succ, i64_w, i32_w]
                   rfl
                  refine pure_ (i := 13) (N := some 121) (v := ?_) (a' := ?_) bt4_104 rfl rfl (z8q HT_.out (by kernel_rfl)) (fun _ _ _ h => h) (Or.inl ⟨by rfl, ?_⟩) ?_ ?_
                  rotate_left
                  ·intro w'
                   go_simp
                   with_reducible rfl
                  rotate_left
                  ·simp only [Act.put, setIfInBounds_toArray, set_cons_zero, set_cons_succ, i64_w, i32_w]
                   rfl
                  refine pure_ (i := 16) (N := some 124) (v := ?_) (a' := ?_) bt4_105 rfl rfl (z8q HT_.out (by kernel_rfl)) (fun _ _ _ h => h) (Or.inl ⟨by rfl, ?_⟩) ?_ ?_
                  rotate_left
                  ·intro w'
                   go_simp
                   with_reducible rfl
                  rotate_left
                  ·simp only [Act.put, setIfInBounds_toArray, set_cons_zero, set_cons_succ, i64_w, i32_w]
                   rfl
                  refine pure_ (i := 17) (N := some 125) (v := ?_) (a' := ?_) bt4_106 rfl rfl (z8q HT_.out (by kernel_rfl)) (fun _ _ _ h => h) (Or.inl ⟨by rfl, ?_⟩) ?_ ?_
                  rotate_left
                  ·intro w'
                   go_simp
                   with_reducible rfl
                  rotate_left
                  ·simp only [Act.put, setIfInBounds_toArray, set_cons_zero, set_cons_succ, i64_w, i32_w]
                   rfl
                  refine pure_ (i := 18) (N := some 126) (v := ?_) (a' := ?_) bt4_107 rfl rfl (z8q HT_.out (by kernel_rfl)) (fun _ _ _ h => h) (Or.inl ⟨by rfl, ?_⟩) ?_ ?_
                  rotate_left
                  ·intro w'
                   go_simp
                   with_reducible rfl
                  rotate_left
                  ·simp only [Act.put, setIfInBounds_toArray, set_cons_zero, set_cons_succ, i64_w, i32_w]
                   rfl
                  refine pure_ (i := 19) (N := some 127) (v := ?_) (a' := ?_) bt4_108 rfl rfl (z8q HT_.out (by kernel_rfl)) (fun _ _ _ h => h) (Or.inl ⟨by rfl, ?_⟩) ?_ ?_
                  rotate_left
                  ·intro w'
                   go_simp
                   with_reducible rfl
                  rotate_left
                  ·simp only [Act.put, setIfInBounds_toArray, set_cons_zero, set_cons_succ, i64_w, i32_w]
                   rfl
                  refine pure_ (i := 21) (N := some 129) (v := ?_) (a' := ?_) bt4_109 rfl rfl (z8q HT_.out (by kernel_rfl)) (fun _ _ _ h => h) (Or.inl ⟨by rfl, ?_⟩) ?_ ?_
                  rotate_left
                  ·intro w'
                   go_simp
                   with_reducible rfl
                  rotate_left
                  ·simp only [Act.put, setIfInBounds_toArray, set_cons_zero, set_cons_succ, i64_w, i32_w]
                   rfl
                  refine pure_ (i := 22) (N := some 130) (v := ?_) (a' := ?_) bt4_110 rfl rfl (z8q HT_.out (by kernel_rfl)) (fun _ _ _ h => h) (Or.inl ⟨by rfl, ?_⟩) ?_ ?_
                  rotate_left
                  ·intro w'
                   go_simp
                   with_reducible rfl
                  rotate_left
                  ·simp only [Act.put, setIfInBounds_toArray, set_cons_zero, set_cons_succ, i64_w, i32_w]
                   rfl
                  refine pure_ (i := 23) (N := some 131) (v := ?_) (a' := ?_) bt4_111 rfl rfl (z8q HT_.out (by kernel_rfl)) (fun _ _ _ h => h) (Or.inl ⟨by rfl, ?_⟩) ?_ ?_
                  rotate_left
                  ·intro w'
                   go_simp
                   with_reducible rfl
                  rotate_left
                  ·simp only [Act.put, setIfInBounds_toArray, set_cons_zero, set_cons_succ, i64_w, i32_w]
                   rfl
                  refine pure_ (i := 24) (N := some 132) (v := ?_) (a' := ?_) bt4_112 rfl rfl (z8q HT_.out (by kernel_rfl)) (fun _ _ _ h => h) (Or.inl ⟨by rfl, ?_⟩) ?_ ?_
                  rotate_left
                  ·intro w'
                   go_simp
                   with_reducible rfl
                  rotate_left
                  ·simp only [Act.put, setIfInBounds_toArray, set_cons_zero, set_cons_succ, i64_w, i32_w]
                   rfl
                  refine take_ (i := 9) (N := some 117) (v := ?_) (a' := ?_) bt4_113 rfl rfl (z19q HT_.out HW_.out (by kernel_rfl)) (fun _ _ _ h => h) (Or.inl ⟨by rfl, ?_⟩) hHeld ?_ ?_
                  rotate_left
                  ·rintro w' ⟨s0, s1, s2, s3, s4, s5, s6, s7, s8, s9, s10, s11, s12, s13, s14, s15, s16, s17, s18, s19, s20, s21, s22, s23, s24, s25, s26, s27, s28, s29, s30, s31⟩
                   go_simp
                   with_reducible rfl
                  rotate_left
                  ·simp only [Act.put, setIfInBounds_toArray, set_cons_zero, set_cons_succ, i64_w, i32_w]
                   rfl
                  refine take_ (i := 14) (N := some 122) (v := ?_) (a' := ?_) bt4_114 rfl rfl (z19q HT_.out HW_.out (by kernel_rfl)) (fun _ _ _ h => h) (Or.inl ⟨by rfl, ?_⟩) hHeld ?_ ?_
                  rotate_left
                  ·rintro w' ⟨s0, s1, s2, s3, s4, s5, s6, s7, s8, s9, s10, s11, s12, s13, s14, s15, s16, s17, s18, s19, s20, s21, s22, s23, s24, s25, s26, s27, s28, s29, s30, s31⟩
                   go_simp
                   with_reducible rfl
                  rotate_left
                  ·simp only [Act.put, setIfInBounds_toArray, set_cons_zero, set_cons_succ, i64_w, i32_w]
                   rfl
                  refine pure_ (i := 15) (N := some 123) (v := ?_) (a' := ?_) bt4_115 rfl rfl (z8q HT_.out (by kernel_rfl)) (fun _ _ _ h => h) (Or.inl ⟨by rfl, ?_⟩) ?_ ?_
                  rotate_left
                  ·intro w'
                   go_simp
                   with_reducible rfl
                  rotate_left
                  ·simp only [Act.put, setIfInBounds_toArray, set_cons_zero, set_cons_succ, i64_w, i32_w]
                   rfl
                  refine take_ (i := 20) (N := some 128) (v := ?_) (a' := ?_) bt4_95 rfl rfl (z19q HT_.out HW_.out (by kernel_rfl)) (fun _ _ _ h => h) (Or.inl ⟨by rfl, ?_⟩) hHeld ?_ ?_
                  rotate_left
                  ·rintro w' ⟨s0, s1, s2, s3, s4, s5, s6, s7, s8, s9, s10, s11, s12, s13, s14, s15, s16, s17, s18, s19, s20, s21, s22, s23, s24, s25, s26, s27, s28, s29, s30, s31⟩
                   go_simp
                   with_reducible rfl
                  rotate_left
                  ·simp only [Act.put, setIfInBounds_toArray, set_cons_zero, set_cons_succ, i64_w, i32_w]
                   rfl
                  refine take_ (i := 25) (N := some 133) (v := ?_) (a' := ?_) bt4_96 rfl rfl (z19q HT_.out HW_.out (by kernel_rfl)) (fun _ _ _ h => h) (Or.inl ⟨by rfl, ?_⟩) hHeld ?_ ?_
                  rotate_left
                  ·rintro w' ⟨s0, s1, s2, s3, s4, s5, s6, s7, s8, s9, s10, s11, s12, s13, s14, s15, s16, s17, s18, s19, s20, s21, s22, s23, s24, s25, s26, s27, s28, s29, s30, s31⟩
                   go_simp
                   with_reducible rfl
                  rotate_left
                  ·simp only [Act.put, setIfInBounds_toArray, set_cons_zero, set_cons_succ, i64_w, i32_w]
                   rfl
                  refine pure_ (i := 26) (N := some 134) (v := ?_) (a' := ?_) bt4_97 rfl rfl (z8q HT_.out (by kernel_rfl)) (fun _ _ _ h => h) (Or.inl ⟨by rfl, ?_⟩) ?_ ?_
                  rotate_left
                  ·intro w'
                   go_simp
                   with_reducible rfl
                  rotate_left
                  ·simp only [Act.put, setIfInBounds_toArray, set_cons_zero, set_cons_succ, i64_w, i32_w]
                   rfl
                  refine one_ (i := 27) (N := some 135) bt4_98 rfl rfl (one_of HT_.out (by kernel_rfl)) (by decide) (fun K hK => ?_)
                  refine goes_ Try.func72 (by kernel_rfl) rfl #[.agg #[.int .i64 ((rd_T107 l1 x7_2).f0), .int .i64 ((rd_T107 l1 x7_2).f1)], .agg #[.int .i64 ((rd_T107 l0 x6_2).f0), .int .i64 ((rd_T107 l0 x6_2).f1)]] (by rfl) rfl rfl (by (try simp only [map_toArray, map_cons, map_nil]); first | done | rfl | (simp only [length_drop, length_take]; rfl)) ?_
                  with_reducible refine (impl_place_before.calls ((rd_T107 l1 x7_2).f0) ((rd_T107 l1 x7_2).f1) ((rd_T107 l0 x6_2).f0) ((rd_T107 l0 x6_2).f1) t192 _ A65.out).mono ?_
                  rintro e w67 ⟨rfl, hb⟩
                  refine ⟨_, rfl, ?_⟩
                  have n0_ := Aside0.mk (Kd.R_below (ro HO_5.out) hb)
                  have n1_ := Aside0.mk (z6q (ibh HB.out) hb)
                  clear HO_5
                  clear HB
                  have HO_5 := n0_
                  have HB := n1_
                  clear n0_ n1_
                  (try clear hb)
                  (try clear hb2)
                  (try clear hk)
                  (try clear hi)
                  refine hK.out _ _ ⟨(hbt HB.out hw188_0), (hbt HB.out hw188_1), (hbt HB.out hw188_2), (hbt HB.out hw188_3), (hbt HB.out hw188_4), (hbt HB.out hw188_5), (hbt HB.out hw188_6), (hbt HB.out hw188_7), (hbt HB.out hw189_0), (hbt HB.out hw189_1), (hbt HB.out hw189_2), (hbt HB.out hw189_3), (hbt HB.out hw189_4), (hbt HB.out hw189_5), (hbt HB.out hw189_6), (hbt HB.out hw189_7), (hbt HB.out hw190_0), (hbt HB.out hw190_1), (hbt HB.out hw190_2), (hbt HB.out hw190_3), (hbt HB.out hw190_4), (hbt HB.out hw190_5), (hbt HB.out hw190_6), (hbt HB.out hw190_7), (hbt HB.out hw191_0), (hbt HB.out hw191_1), (hbt HB.out hw191_2), (hbt HB.out hw191_3), (hbt HB.out hw191_4), (hbt HB.out hw191_5), (hbt HB.out hw191_6), (hbt HB.out hw191_7)⟩ (fun hHeld => ?_)
                  clear hK K
                  refine norm_ (a' := ?_) ?_ ?_
                  rotate_left
                  ·show Act.put _ (some 135) _ = _
                   simp only [Act.put, setIfInBounds_toArray, set_cons_zero, set_cons_succ, i64_w, i32_w]
                   rfl
                  refine pure_ (i := 28) (N := some 136) (v := ?_) (a' := ?_) bt4_99 rfl rfl (z8q HT_.out (by kernel_rfl)) (fun _ _ _ h => h) (Or.inl ⟨by rfl, ?_⟩) ?_ ?_
                  rotate_left
                  ·intro w'
                   go_simp
                   with_reducible rfl
                  rotate_left
                  ·simp only [Act.put, setIfInBounds_toArray, set_cons_zero, set_cons_succ, i64_w, i32_w]
                   rfl
                  refine pure_ (i := 29) (N := some 107) (v := ?_) (a' := ?_) bt4_100 rfl rfl (z8q HT_.out (by kernel_rfl)) (fun _ _ _ h => h) (Or.inl ⟨by rfl, ?_⟩) ?_ ?_
                  rotate_left
                  ·intro w'
                   go_simp
                   with_reducible rfl
                  rotate_left
                  ·simp only [Act.put, setIfInBounds_toArray, set_cons_zero, set_cons_succ, i64_w, i32_w]
                   rfl
                  refine done_ (done_of HT_.out (by kernel_rfl)) ?_
                  try go_wp2
                  go_meet
                  case rel => exact ⟨_, (t192), (by first | rfl | (simp; done) | (simp [*]; done) | (simp; unfold wrap64; omega)), H', ⟨by have := HJ2.out; have := HK2.out; have := HJ12.out; have := HJ15.out; first | omega | exact Nat.le_refl _⟩, ⟨by (with_reducible repeat (first | apply Kd.R_alloc | apply Kd.R_drewN | apply Kd.R_drew)); exact HO_5.out⟩, ⟨by repeat (first | (with_reducible first | exact HB.out | apply z7q | apply z3q | apply z4q) | exact HB.out)⟩⟩
                 ·rw [if_neg c64] at H
                  exact absurd H (by simp)
                ·rw [if_neg c63] at H
                 exact absurd H (by simp)
               ·rw [if_neg c62] at H
                exact absurd H (by simp)
              ·rw [if_neg c61] at H
               exact absurd H (by simp)
            case rest =>
             clear HC58
             try clear p1
             try clear q1
             try clear hx1
             try clear c2
             try clear p2
             try clear c5
             try clear c6
             try clear p6
             try clear c7
             try clear p18
             try clear q18
             try clear hx18
             try clear p19
             try clear q19
             try clear hx19
             try clear c27
             try clear c28
             try clear c29
             try clear c59
             try clear c59b0
             try clear c59b1
             try clear c61
             try clear c61b0
             try clear c62
             try clear c62b0
             try clear c63
             try clear c63b0
             try clear c64
             try clear c64b0
             try clear p64
             try clear hx188_0
             try clear hx188_1
             try clear hx188_2
             try clear hx188_3
             try clear hx188_4
             try clear hx188_5
             try clear hx188_6
             try clear hx188_7
             try clear hx189_0
             try clear hx189_1
             try clear hx189_2
             try clear hx189_3
             try clear hx189_4
             try clear hx189_5
             try clear hx189_6
             try clear hx189_7
             try clear hx190_0
             try clear hx190_1
             try clear hx190_2
             try clear hx190_3
             try clear hx190_4
             try clear hx190_5
             try clear hx190_6
             try clear hx190_7
             try clear hx191_0
             try clear hx191_1
             try clear hx191_2
             try clear hx191_3
             try clear hx191_4
             try clear hx191_5
             try clear hx191_6
             try clear hx191_7
             try clear p188
             try clear p189
             try clear p190
             try clear p191
             try clear q188
             try clear q189
             try clear q190
             try clear q191
             obtain ⟨kq, x107_57, rfl, HA, HJ57, HO_5, HB⟩ := hcut
             cases kq with
             | zero => exact absurd HA.out (by simp [impl_Differ.j4])
             | succ kj57 =>
              have H := HA.out
              clear HA
              simp only [impl_Differ.j4] at H
              by_cases c68 : x107_57 = true
              ·subst c68
               have H1 : (if 0 ≤ x7_2 then (if x7_2 < (l1.length : Int) then (if ((!(((rd_T107 l1 x7_2).f2.f0) == 0) || ((((rd_T107 l1 x7_2).f2.f1.f0) || (!(((rd_T107 l1 x7_2).f2.f1.f1) == 0) || (!(((rd_T107 l1 x7_2).f2.f1.f2) == 0)))) || (!((((rd_T107 l1 x7_2).f2.f2).toList) == ([] : List UInt8))))) || (((rd_T107 l1 x7_2).f3))) = true then (if x5_2.length < 1954687338268 then (impl_Differ.l0 kj57 l0 l1 (x5_2 ++ [(⟨(rd_T107 l1 x7_2).f0, (rd_T107 l1 x7_2).f1, (⟨(rd_T107 l1 x7_2).f2.f0, (⟨(rd_T107 l1 x7_2).f2.f1.f0, (rd_T107 l1 x7_2).f2.f1.f1, (rd_T107 l1 x7_2).f2.f1.f2⟩ : S103), (rd_T107 l1 x7_2).f2.f2⟩ : S105), (rd_T107 l1 x7_2).f3⟩ : S107)]) x6_2 (wrap64 (x7_2 + 1))) else (none)) else (impl_Differ.l0 kj57 l0 l1 x5_2 x6_2 (wrap64 (x7_2 + 1)))) else (none)) else (none)) = some r := by rw [if_pos rfl] at H; exact H
               clear H
               have H := H1
               clear H1
               by_cases c69 : 0 ≤ x7_2
               ·rw [if_pos c69] at H
                have c69b0 : decide (0 ≤ x7_2) = true := decide_eq_true c69
                clear c69
                by_cases c70 : x7_2 < (l1.length : Int)
                ·rw [if_pos c70] at H
                 have c70b0 : decide (x7_2 < (l1.length : Int)) = true := decide_eq_true c70
                 clear c70
                 by_cases c71 : ((!(((rd_T107 l1 x7_2).f2.f0) == 0) || ((((rd_T107 l1 x7_2).f2.f1.f0) || (!(((rd_T107 l1 x7_2).f2.f1.f1) == 0) || (!(((rd_T107 l1 x7_2).f2.f1.f2) == 0)))) || (!((((rd_T107 l1 x7_2).f2.f2).toList) == ([] : List UInt8))))) || (((rd_T107 l1 x7_2).f3))) = true
                 ·rw [if_pos c71] at H
                  have c71b0 : ((!(((rd_T107 l1 x7_2).f2.f0) == 0) || ((((rd_T107 l1 x7_2).f2.f1.f0) || (!(((rd_T107 l1 x7_2).f2.f1.f1) == 0) || (!(((rd_T107 l1 x7_2).f2.f1.f2) == 0)))) || (!((((rd_T107 l1 x7_2).f2.f2).toList) == ([] : List UInt8))))) || (((rd_T107 l1 x7_2).f3))) = true := c71
                  rw [show ((((rd_T107 l1 x7_2).f2.f2).toList) == ([] : List UInt8)) = ((rd_T107 l1 x7_2).f2.f2).toList.isEmpty from by cases ((rd_T107 l1 x7_2).f2.f2).toList <;> rfl] at c71b0
                  clear c71
                  by_cases c72 : x5_2.length < 1954687338268
                  ·skip
                   rw [if_pos c72] at H
                   have LMc72 := Aside0.mk c72
                   clear c72
                   obtain ⟨y197, hy197⟩ : ∃ y_ : List (S107), y_ = (x5_2 ++ [(⟨(rd_T107 l1 x7_2).f0, (rd_T107 l1 x7_2).f1, (⟨(rd_T107 l1 x7_2).f2.f0, (⟨(rd_T107 l1 x7_2).f2.f1.f0, (rd_T107 l1 x7_2).f2.f1.f1, (rd_T107 l1 x7_2).f2.f1.f2⟩ : S103), (rd_T107 l1 x7_2).f2.f2⟩ : S105), (rd_T107 l1 x7_2).f3⟩ : S107)]) := ⟨_, rfl⟩
                   replace H : (impl_Differ.l0 kj57 l0 l1 y197 x6_2 (wrap64 (x7_2 + 1))) = some r := by first | (rw [hy197]; with_reducible exact H) | (have H2_ := (Option.bind_some _ _).symm.trans H; rw [hy197]; with_reducible exact H2_) | (have H2_ := (Option.bind_some _ _).symm.trans H; with_reducible exact H2_) | with_reducible exact H | (rw [hy197]; exact H) | exact H
                   have Ny197 := Aside0.mk hy197
                   clear hy197
                   have H' := Aside0.mk H
                   clear H
                   try go_wp2
                   have n0_ := Aside0.mk (Kd.R_drew HO_5.out)
                   have n1_ := Aside0.mk (z4q HB.out)
                   clear HO_5
                   clear HB
                   have HO_5 := n0_
                   have HB := n1_
                   clear n0_ n1_
                   have p193 : 0 ≤ (x7_2 : Int) := of_decide_eq_true (by first | (with_reducible assumption) | assumption)
                   have q193 : x7_2 < (l1.length : Int) := of_decide_eq_true (by first | (with_reducible assumption) | assumption)
                   obtain ⟨ad193, e193, hx193_0, hx193_1, hx193_2, hx193_3, hx193_4, hx193_5, hx193_6, hx193_7⟩ := at_T107 HR1.out x7_2 p193 q193
                   have hw193_7 := hx193_7
                   have hw193_6 := hx193_6
                   have hw193_5 := hx193_5
                   have hw193_4 := hx193_4
                   have hw193_3 := hx193_3
                   have hw193_2 := hx193_2
                   have hw193_1 := hx193_1
                   have hw193_0 := hx193_0
                   cases e193
                   replace hx193_0 := (hbc HB.out hx193_0).trans hx193_0
                   replace hx193_1 := (hbc HB.out hx193_1).trans hx193_1
                   replace hx193_2 := (hbc HB.out hx193_2).trans hx193_2
                   replace hx193_3 := (hbc HB.out hx193_3).trans hx193_3
                   replace hx193_4 := (hbc HB.out hx193_4).trans hx193_4
                   replace hx193_5 := (hbc HB.out hx193_5).trans hx193_5
                   replace hx193_6 := (hbc HB.out hx193_6).trans hx193_6
                   replace hx193_7 := (hbc HB.out hx193_7).trans hx193_7
                   replace p193 := eq_true p193
                   replace q193 := eq_true q193
                   have p194 : 0 ≤ (x7_2 : Int) := of_decide_eq_true (by first | (with_reducible assumption) | assumption)
                   have q194 : x7_2 < (l1.length : Int) := of_decide_eq_true (by first | (with_reducible assumption) | assumption)
                   obtain ⟨ad194, e194, hx194_0, hx194_1, hx194_2, hx194_3, hx194_4, hx194_5, hx194_6, hx194_7⟩ := at_T107 HR1.out x7_2 p194 q194
                   have hw194_7 := hx194_7
                   have hw194_6 := hx194_6
                   have hw194_5 := hx194_5
                   have hw194_4 := hx194_4
                   have hw194_3 := hx194_3
                   have hw194_2 := hx194_2
                   have hw194_1 := hx194_1
                   have hw194_0 := hx194_0
                   obtain rfl : ad193 = ad194 := (by injection e194)
                   replace hx194_0 := (hbc HB.out hx194_0).trans hx194_0
                   replace hx194_1 := (hbc HB.out hx194_1).trans hx194_1
                   replace hx194_2 := (hbc HB.out hx194_2).trans hx194_2
                   replace hx194_3 := (hbc HB.out hx194_3).trans hx194_3
                   replace hx194_4 := (hbc HB.out hx194_4).trans hx194_4
                   replace hx194_5 := (hbc HB.out hx194_5).trans hx194_5
                   replace hx194_6 := (hbc HB.out hx194_6).trans hx194_6
                   replace hx194_7 := (hbc HB.out hx194_7).trans hx194_7
                   replace p194 := eq_true p194
                   replace q194 := eq_true q194
                   have p195 : 0 ≤ (x7_2 : Int) := of_decide_eq_true (by first | (with_reducible assumption) | assumption)
                   have q195 : x7_2 < (l1.length : Int) := of_decide_eq_true (by first | (with_reducible assumption) | assumption)
                   obtain ⟨ad195, e195, hx195_0, hx195_1, hx195_2, hx195_3, hx195_4, hx195_5, hx195_6, hx195_7⟩ := at_T107 HR1.out x7_2 p195 q195
                   have hw195_7 := hx195_7
                   have hw195_6 := hx195_6
                   have hw195_5 := hx195_5
                   have hw195_4 := hx195_4
                   have hw195_3 := hx195_3
                   have hw195_2 := hx195_2
                   have hw195_1 := hx195_1
                   have hw195_0 := hx195_0
                   obtain rfl : ad193 = ad195 := (by injection e195)
                   replace hx195_0 := (hbc HB.out hx195_0).trans hx195_0
                   replace hx195_1 := (hbc HB.out hx195_1).trans hx195_1
                   replace hx195_2 := (hbc HB.out hx195_2).trans hx195_2
                   replace hx195_3 := (hbc HB.out hx195_3).trans hx195_3
                   replace hx195_4 := (hbc HB.out hx195_4).trans hx195_4
                   replace hx195_5 := (hbc HB.out hx195_5).trans hx195_5
                   replace hx195_6 := (hbc HB.out hx195_6).trans hx195_6
                   replace hx195_7 := (hbc HB.out hx195_7).trans hx195_7
                   replace p195 := eq_true p195
                   replace q195 := eq_true q195
                   refine start_ (n := 16) (S := fun w' => w'.cell? (ad193.add ((x7_2).toNat * 8)) = some (.int .i64 ((rd_T107 l1 x7_2).f0)) ∧ w'.cell? ⟨(ad193.add ((x7_2).toNat * 8)).block, (ad193.add ((x7_2).toNat * 8)).off + 1, none⟩ = some (.int .i64 ((rd_T107 l1 x7_2).f1)) ∧ w'.cell? ⟨(ad193.add ((x7_2).toNat * 8)).block, (ad193.add ((x7_2).toNat * 8)).off + 2, none⟩ = some (.int .i64 ((rd_T107 l1 x7_2).f2.f0)) ∧ w'.cell? ⟨(ad193.add ((x7_2).toNat * 8)).block, (ad193.add ((x7_2).toNat * 8)).off + 3, none⟩ = some (.bool ((rd_T107 l1 x7_2).f2.f1.f0)) ∧ w'.cell? ⟨(ad193.add ((x7_2).toNat * 8)).block, (ad193.add ((x7_2).toNat * 8)).off + 4, none⟩ = some (.int .i64 ((rd_T107 l1 x7_2).f2.f1.f1)) ∧ w'.cell? ⟨(ad193.add ((x7_2).toNat * 8)).block, (ad193.add ((x7_2).toNat * 8)).off + 5, none⟩ = some (.int .i64 ((rd_T107 l1 x7_2).f2.f1.f2)) ∧ w'.cell? ⟨(ad193.add ((x7_2).toNat * 8)).block, (ad193.add ((x7_2).toNat * 8)).off + 6, none⟩ = some (.string ((rd_T107 l1 x7_2).f2.f2)) ∧ w'.cell? ⟨(ad193.add ((x7_2).toNat * 8)).block, (ad193.add ((x7_2).toNat * 8)).off + 7, none⟩ = some (.bool ((rd_T107 l1 x7_2).f3)) ∧ w'.cell? (ad193.add ((x7_2).toNat * 8)) = some (.int .i64 ((rd_T107 l1 x7_2).f0)) ∧ w'.cell? ⟨(ad193.add ((x7_2).toNat * 8)).block, (ad193.add ((x7_2).toNat * 8)).off + 1, none⟩ = some (.int .i64 ((rd_T107 l1 x7_2).f1)) ∧ w'.cell? ⟨(ad193.add ((x7_2).toNat * 8)).block, (ad193.add ((x7_2).toNat * 8)).off + 2, none⟩ = some (.int .i64 ((rd_T107 l1 x7_2).f2.f0)) ∧ w'.cell? ⟨(ad193.add ((x7_2).toNat * 8)).block, (ad193.add ((x7_2).toNat * 8)).off + 3, none⟩ = some (.bool ((rd_T107 l1 x7_2).f2.f1.f0)) ∧ w'.cell? ⟨(ad193.add ((x7_2).toNat * 8)).block, (ad193.add ((x7_2).toNat * 8)).off + 4, none⟩ = some (.int .i64 ((rd_T107 l1 x7_2).f2.f1.f1)) ∧ w'.cell? ⟨(ad193.add ((x7_2).toNat * 8)).block, (ad193.add ((x7_2).toNat * 8)).off + 5, none⟩ = some (.int .i64 ((rd_T107 l1 x7_2).f2.f1.f2)) ∧ w'.cell? ⟨(ad193.add ((x7_2).toNat * 8)).block, (ad193.add ((x7_2).toNat * 8)).off + 6, none⟩ = some (.string ((rd_T107 l1 x7_2).f2.f2)) ∧ w'.cell? ⟨(ad193.add ((x7_2).toNat * 8)).block, (ad193.add ((x7_2).toNat * 8)).off + 7, none⟩ = some (.bool ((rd_T107 l1 x7_2).f3)) ∧ w'.cell? (ad193.add ((x7_2).toNat * 8)) = some (.int .i64 ((rd_T107 l1 x7_2).f0)) ∧ w'.cell? ⟨(ad193.add ((x7_2).toNat * 8)).block, (ad193.add ((x7_2).toNat * 8)).off + 1, none⟩ = some (.int .i64 ((rd_T107 l1 x7_2).f1)) ∧ w'.cell? ⟨(ad193.add ((x7_2).toNat * 8)).block, (ad193.add ((x7_2).toNat * 8)).off + 2, none⟩ = some (.int .i64 ((rd_T107 l1 x7_2).f2.f0)) ∧ w'.cell? ⟨(ad193.add ((x7_2).toNat * 8)).block, (ad193.add ((x7_2).toNat * 8)).off + 3, none⟩ = some (.bool ((rd_T107 l1 x7_2).f2.f1.f0)) ∧ w'.cell? ⟨(ad193.add ((x7_2).toNat * 8)).block, (ad193.add ((x7_2).toNat * 8)).off + 4, none⟩ = some (.int .i64 ((rd_T107 l1 x7_2).f2.f1.f1)) ∧ w'.cell? ⟨(ad193.add ((x7_2).toNat * 8)).block, (ad193.add ((x7_2).toNat * 8)).off + 5, none⟩ = some (.int .i64 ((rd_T107 l1 x7_2).f2.f1.f2)) ∧ w'.cell? ⟨(ad193.add ((x7_2).toNat * 8)).block, (ad193.add ((x7_2).toNat * 8)).off + 6, none⟩ = some (.string ((rd_T107 l1 x7_2).f2.f2)) ∧ w'.cell? ⟨(ad193.add ((x7_2).toNat * 8)).block, (ad193.add ((x7_2).toNat * 8)).off + 7, none⟩ = some (.bool ((rd_T107 l1 x7_2).f3))) (ds := []) bt4_116 (by kernel_rfl) rfl rfl ⟨(hbt HB.out hw193_0), (hbt HB.out hw193_1), (hbt HB.out hw193_2), (hbt HB.out hw193_3), (hbt HB.out hw193_4), (hbt HB.out hw193_5), (hbt HB.out hw193_6), (hbt HB.out hw193_7), (hbt HB.out hw194_0), (hbt HB.out hw194_1), (hbt HB.out hw194_2), (hbt HB.out hw194_3), (hbt HB.out hw194_4), (hbt HB.out hw194_5), (hbt HB.out hw194_6), (hbt HB.out hw194_7), (hbt HB.out hw195_0), (hbt HB.out hw195_1), (hbt HB.out hw195_2), (hbt HB.out hw195_3), (hbt HB.out hw195_4), (hbt HB.out hw195_5), (hbt HB.out hw195_6), (hbt HB.out hw195_7)⟩ (fun hHeld => ?_); refine with_tabW impl_Differ.tab17 impl_Differ.bits17 (fun HT_ HW_ => ?_)
                   generalize wc.drew = w73 at HO_5 HB hx193_0 hx193_1 hx193_2 hx193_3 hx193_4 hx193_5 hx193_6 hx193_7 hx194_0 hx194_1 hx194_2 hx194_3 hx194_4 hx194_5 hx194_6 hx194_7 hx195_0 hx195_1 hx195_2 hx195_3 hx195_4 hx195_5 hx195_6 hx195_7 hHeld ⊢
                   refine pure_ (i := 0) (N := some 137) (v := ?_) (a' := ?_) bt4_117 rfl rfl (z8q HT_.out (by kernel_rfl)) (fun _ _ _ h => h) (Or.inl ⟨by rfl, ?_⟩) ?_ ?_
                   rotate_left
                   ·intro w'
                    go_simp
                    with_reducible rfl
                   rotate_left
                   ·simp only [Act.put, setIfInBounds_toArray, set_cons_zero, set_cons_succ, i64_w, i32_w]
                    rfl
                   refine pure_ (i := 1) (N := some 138) (v := ?_) (a' := ?_) bt4_118 rfl rfl (z8q HT_.out (by kernel_rfl)) (fun _ _ _ h => h) (Or.inl ⟨by rfl, ?_⟩) ?_ ?_
                   rotate_left
                   ·intro w'
                    go_simp
                    with_reducible rfl
                   rotate_left
                   ·simp only [Act.put, setIfInBounds_toArray, set_cons_zero, set_cons_succ, i64_w, i32_w]
                    rfl
                   refine pure_ (i := 2) (N := some 139) (v := ?_) (a' := ?_) bt4_119 rfl rfl (z8q HT_.out (by kernel_rfl)) (fun _ _ _ h => h) (Or.inl ⟨by rfl, ?_⟩) ?_ ?_
                   rotate_left
                   ·intro w'
                    go_simp
                    with_reducible rfl
                   rotate_left
                   ·simp only [Act.put, setIfInBounds_toArray, set_cons_zero, set_cons_succ, i64_w, i32_w]
                    rfl
                   refine pure_ (i := 4) (N := some 141) (v := ?_) (a' := ?_) bt4_120 rfl rfl (z8q HT_.out (by kernel_rfl)) (fun _ _ _ h => h) (Or.inl ⟨by rfl, ?_⟩) ?_ ?_
                   rotate_left
                   ·intro w'
                    go_simp
                    with_reducible rfl
                   rotate_left
                   ·simp only [Act.put, setIfInBounds_toArray, set_cons_zero, set_cons_succ, i64_w, i32_w]
                    rfl
                   refine pure_ (i := 5) (N := some 142) (v := ?_) (a' := ?_) bt4_121 rfl rfl (z8q HT_.out (by kernel_rfl)) (fun _ _ _ h => h) (Or.inl ⟨by rfl, ?_⟩) ?_ ?_
                   rotate_left
                   ·intro w'
                    go_simp
                    with_reducible rfl
                   rotate_left
                   ·simp only [Act.put, setIfInBounds_toArray, set_cons_zero, set_cons_succ, i64_w, i32_w]
                    rfl
                   refine pure_ (i := 6) (N := some 143) (v := ?_) (a' := ?_) bt4_122 rfl rfl (z8q HT_.out (by kernel_rfl)) (fun _ _ _ h => h) (Or.inl ⟨by rfl, ?_⟩) ?_ ?_
                   rotate_left
                   ·intro w'
                    go_simp
                    with_reducible rfl
                   rotate_left
                   ·simp only [Act.put, setIfInBounds_toArray, set_cons_zero, set_cons_succ, i64_w, i32_w]
                    rfl
                   refine pure_ (i := 7) (N := some 144) (v := ?_) (a' := ?_) bt4_123 rfl rfl (z8q HT_.out (by kernel_rfl)) (fun _ _ _ h => h) (Or.inl ⟨by rfl, ?_⟩) ?_ ?_
                   rotate_left
                   ·intro w'
                    go_simp
                    with_reducible rfl
                   rotate_left
                   ·simp only [Act.put, setIfInBounds_toArray, set_cons_zero, set_cons_succ, i64_w, i32_w]
                    rfl
                   refine pure_ (i := 9) (N := some 146) (v := ?_) (a' := ?_) bt4_124 rfl rfl (z8q HT_.out (by kernel_rfl)) (fun _ _ _ h => h) (Or.inl ⟨by rfl, ?_⟩) ?_ ?_
                   rotate_left
                   ·intro w'
                    go_simp
                    with_reducible rfl
                   rotate_left
                   ·simp only [Act.put, setIfInBounds_toArray, set_cons_zero, set_cons_succ, i64_w, i32_w]
                    rfl
                   refine pure_ (i := 10) (N := some 147) (v := ?_) (a' := ?_) bt4_125 rfl rfl (z8q HT_.out (by kernel_rfl)) (fun _ _ _ h => h) (Or.inl ⟨by rfl, ?_⟩) ?_ ?_
                   rotate_left
                   ·intro w'
                    go_simp
                    with_reducible rfl
                   rotate_left
                   ·simp only [Act.put, setIfInBounds_toArray, set_cons_zero, set_cons_succ, i64_w, i32_w]
                    rfl
                   refine pure_ (i := 11) (N := some 148) (v := ?_) (a' := ?_) bt4_126 rfl rfl (z8q HT_.out (by kernel_rfl)) (fun _ _ _ h => h) (Or.inl ⟨by rfl, ?_⟩) ?_ ?_
                   rotate_left
                   ·intro w'
                    go_simp
                    with_reducible rfl
                   rotate_left
                   ·simp only [Act.put, setIfInBounds_toArray, set_cons_zero, set_cons_succ, i64_w, i32_w]
                    rfl
                   refine pure_ (i := 12) (N := some 149) (v := ?_) (a' := ?_) bt4_127 rfl rfl (z8q HT_.out (by kernel_rfl)) (fun _ _ _ h => h) (Or.inl ⟨by rfl, ?_⟩) ?_ ?_
                   rotate_left
                   ·intro w'
                    go_simp
                    with_reducible rfl
                   rotate_left
                   ·simp only [Act.put, setIfInBounds_toArray, set_cons_zero, set_cons_succ, i64_w, i32_w]
                    rfl
                   refine take_ (i := 3) (N := some 140) (v := ?_) (a' := ?_) bt4_128 rfl rfl (z19q HT_.out HW_.out (by kernel_rfl)) (fun _ _ _ h => h) (Or.inl ⟨by rfl, ?_⟩) hHeld ?_ ?_
                   rotate_left
                   ·rintro w' ⟨s0, s1, s2, s3, s4, s5, s6, s7, s8, s9, s10, s11, s12, s13, s14, s15, s16, s17, s18, s19, s20, s21, s22, s23⟩
                    go_simp
                    with_reducible rfl
                   rotate_left
                   ·simp only [Act.put, setIfInBounds_toArray, set_cons_zero, set_cons_succ, i64_w, i32_w]
                    rfl
                   refine take_ (i := 8) (N := some 145) (v := ?_) (a' := ?_) bt4_129 rfl rfl (z19q HT_.out HW_.out (by kernel_rfl)) (fun _ _ _ h => h) (Or.inl ⟨by rfl, ?_⟩) hHeld ?_ ?_
                   rotate_left
                   ·rintro w' ⟨s0, s1, s2, s3, s4, s5, s6, s7, s8, s9, s10, s11, s12, s13, s14, s15, s16, s17, s18, s19, s20, s21, s22, s23⟩
                    go_simp
                    with_reducible rfl
                   rotate_left
                   ·simp only [Act.put, setIfInBounds_toArray, set_cons_zero, set_cons_succ, i64_w, i32_w]
                    rfl
                   refine take_ (i := 13) (N := some 150) (v := ?_) (a' := ?_) bt4_130 rfl rfl (z19q HT_.out HW_.out (by kernel_rfl)) (fun _ _ _ h => h) (Or.inl ⟨by rfl, ?_⟩) hHeld ?_ ?_
                   rotate_left
                   ·rintro w' ⟨s0, s1, s2, s3, s4, s5, s6, s7, s8, s9, s10, s11, s12, s13, s14, s15, s16, s17, s18, s19, s20, s21, s22, s23⟩
                    go_simp
                    with_reducible rfl
                   rotate_left
                   ·simp only [Act.put, setIfInBounds_toArray, set_cons_zero, set_cons_succ, i64_w, i32_w]
                    rfl
                   refine pure_ (i := 14) (N := some 151) (v := ?_) (a' := ?_) bt4_131 rfl rfl (z8q HT_.out (by kernel_rfl)) (fun _ _ _ h => h) (Or.inl ⟨by rfl, ?_⟩) ?_ ?_
                   rotate_left
                   ·intro w'
                    go_simp
                    with_reducible rfl
                   rotate_left
                   ·simp only [Act.put, setIfInBounds_toArray, set_cons_zero, set_cons_succ, i64_w, i32_w]
                    rfl
                   refine pure_ (i := 15) (N := some 152) (v := ?_) (a' := ?_) bt4_132 rfl rfl (z8q HT_.out (by kernel_rfl)) (fun _ _ _ h => h) (Or.inl ⟨by rfl, ?_⟩) ?_ ?_
                   rotate_left
                   ·intro w'
                    go_simp
                    with_reducible rfl
                   rotate_left
                   ·simp only [Act.put, setIfInBounds_toArray, set_cons_zero, set_cons_succ, i64_w, i32_w]
                    rfl
                   refine done_ (done_of HT_.out (by kernel_rfl)) ?_
                   have p196 : 0 ≤ (x7_2 : Int) := of_decide_eq_true (by first | (with_reducible assumption) | assumption)
                   have q196 : x7_2 < (l1.length : Int) := of_decide_eq_true (by first | (with_reducible assumption) | assumption)
                   obtain ⟨ad196, e196, hx196_0, hx196_1, hx196_2, hx196_3, hx196_4, hx196_5, hx196_6, hx196_7⟩ := at_T107 HR1.out x7_2 p196 q196
                   obtain rfl : ad193 = ad196 := (by injection e196)
                   replace hx196_0 := (hbc HB.out hx196_0).trans hx196_0
                   replace hx196_1 := (hbc HB.out hx196_1).trans hx196_1
                   replace hx196_2 := (hbc HB.out hx196_2).trans hx196_2
                   replace hx196_3 := (hbc HB.out hx196_3).trans hx196_3
                   replace hx196_4 := (hbc HB.out hx196_4).trans hx196_4
                   replace hx196_5 := (hbc HB.out hx196_5).trans hx196_5
                   replace hx196_6 := (hbc HB.out hx196_6).trans hx196_6
                   replace hx196_7 := (hbc HB.out hx196_7).trans hx196_7
                   replace p196 := eq_true p196
                   replace q196 := eq_true q196
                   try go_wp2_with (first | ((with_reducible refine gate_builtin (b := .append) (xs := #[.tmp 153, .tmp 158]) rfl ?_); (try (refine gate_guard (by rfl) ?_; dsimp only)); at_builtin; refine Kd.R_append k107 (w0 := w) w.heap.size rfl (.tmp 153) (.tmp 158) 60 107 (.agg #[(.int .i64 0), (.int .i64 0), (.int .i64 0), (.bool false), (.int .i64 0), (.int .i64 0), (.string ⟨#[]⟩), (.bool false)]) 72 rfl Try.underlying60 info107 rfl (by decide) (by omega) u5 x5_2 (⟨(rd_T107 l1 x7_2).f0, (rd_T107 l1 x7_2).f1, (⟨(rd_T107 l1 x7_2).f2.f0, (⟨(rd_T107 l1 x7_2).f2.f1.f0, (rd_T107 l1 x7_2).f2.f1.f1, (rd_T107 l1 x7_2).f2.f1.f2⟩ : S103), (rd_T107 l1 x7_2).f2.f2⟩ : S105), (rd_T107 l1 x7_2).f3⟩ : S107) [.int .i64 ((rd_T107 l1 x7_2).f0), .int .i64 ((rd_T107 l1 x7_2).f1), .int .i64 ((rd_T107 l1 x7_2).f2.f0), .bool ((rd_T107 l1 x7_2).f2.f1.f0), .int .i64 ((rd_T107 l1 x7_2).f2.f1.f1), .int .i64 ((rd_T107 l1 x7_2).f2.f1.f2), .string ((rd_T107 l1 x7_2).f2.f2), .bool ((rd_T107 l1 x7_2).f3)] (fun _ => True) (fun _ => False) rfl rfl ?aP (fun _ hk => hk.elim) ?aF ?aO ?aB ?aS ?aL ?_; (case aP => exact k107_mkM _ _ _ (⟨(rd_T107 l1 x7_2).f0, (rd_T107 l1 x7_2).f1, (⟨(rd_T107 l1 x7_2).f2.f0, (⟨(rd_T107 l1 x7_2).f2.f1.f0, (rd_T107 l1 x7_2).f2.f1.f1, (rd_T107 l1 x7_2).f2.f1.f2⟩ : S103), (rd_T107 l1 x7_2).f2.f2⟩ : S105), (rd_T107 l1 x7_2).f3⟩ : S107)); (case aB => exact (ibh HB.out)); (case aF => exact (fun _ _ => trivial)); (case aO => exact (ro HO_5.out)); (case aS => exact (z5q (ibh HB.out))); (case aL => have := LMc72.out; omega); intro v198 w74 ho hb hg hat; rw [← Ny197.out] at ho; have n0_ := Aside0.mk (hb); have n1_ := Aside0.mk (ho); clear HB; clear HO_5; have HB := n0_; have HO199 := n1_; clear n0_ n1_; clear ho hb hg hat))
                   go_roundg kj57
                   case measure => have := HJ2.out; have := HK2.out; have := HJ12.out; have := HJ15.out; have := HJ57.out; omega
                   case rel => exact ⟨(y197), (x6_2), (wrap64 (x7_2 + 1)), (by first | rfl | (simp; done) | (simp [*]; done) | (simp; unfold wrap64; omega)), (by first | rfl | (simp; done) | (simp [*]; done) | (simp; unfold wrap64; omega)), H', ⟨by have := HJ2.out; have := HK2.out; have := HJ12.out; have := HJ15.out; have := HJ57.out; omega⟩, ⟨by (with_reducible repeat (first | apply Kd.R_alloc | apply Kd.R_drewN | apply Kd.R_drew)); exact HO199.out⟩, ⟨by repeat (first | (with_reducible first | exact HB.out | apply z7q | apply z3q | apply z4q) | exact HB.out)⟩⟩
                  ·rw [if_neg c72] at H
                   exact absurd H (by simp)
                 ·as_aux_lemma =>
                  rw [if_neg c71] at H
                  have c71b0 : ((!(((rd_T107 l1 x7_2).f2.f0) == 0) || ((((rd_T107 l1 x7_2).f2.f1.f0) || (!(((rd_T107 l1 x7_2).f2.f1.f1) == 0) || (!(((rd_T107 l1 x7_2).f2.f1.f2) == 0)))) || (!((((rd_T107 l1 x7_2).f2.f2).toList) == ([] : List UInt8))))) || (((rd_T107 l1 x7_2).f3))) = false := by simpa using c71
                  rw [show ((((rd_T107 l1 x7_2).f2.f2).toList) == ([] : List UInt8)) = ((rd_T107 l1 x7_2).f2.f2).toList.isEmpty from by cases ((rd_T107 l1 x7_2).f2.f2).toList <;> rfl] at c71b0
                  clear c71
                  have H' := Aside0.mk H
                  clear H
                  try go_wp2
                  have n0_ := Aside0.mk (Kd.R_drew HO_5.out)
                  have n1_ := Aside0.mk (z4q HB.out)
                  clear HO_5
                  clear HB
                  have HO_5 := n0_
                  have HB := n1_
                  clear n0_ n1_
                  have p193 : 0 ≤ (x7_2 : Int) := of_decide_eq_true (by first | (with_reducible assumption) | assumption)
                  have q193 : x7_2 < (l1.length : Int) := of_decide_eq_true (by first | (with_reducible assumption) | assumption)
                  obtain ⟨ad193, e193, hx193_0, hx193_1, hx193_2, hx193_3, hx193_4, hx193_5, hx193_6, hx193_7⟩ := at_T107 HR1.out x7_2 p193 q193
                  have hw193_7 := hx193_7
                  have hw193_6 := hx193_6
                  have hw193_5 := hx193_5
                  have hw193_4 := hx193_4
                  have hw193_3 := hx193_3
                  have hw193_2 := hx193_2
                  have hw193_1 := hx193_1
                  have hw193_0 := hx193_0
                  cases e193
                  replace hx193_0 := (hbc HB.out hx193_0).trans hx193_0
                  replace hx193_1 := (hbc HB.out hx193_1).trans hx193_1
                  replace hx193_2 := (hbc HB.out hx193_2).trans hx193_2
                  replace hx193_3 := (hbc HB.out hx193_3).trans hx193_3
                  replace hx193_4 := (hbc HB.out hx193_4).trans hx193_4
                  replace hx193_5 := (hbc HB.out hx193_5).trans hx193_5
                  replace hx193_6 := (hbc HB.out hx193_6).trans hx193_6
                  replace hx193_7 := (hbc HB.out hx193_7).trans hx193_7
                  replace p193 := eq_true p193
                  replace q193 := eq_true q193
                  have p194 : 0 ≤ (x7_2 : Int) := of_decide_eq_true (by first | (with_reducible assumption) | assumption)
                  have q194 : x7_2 < (l1.length : Int) := of_decide_eq_true (by first | (with_reducible assumption) | assumption)
                  obtain ⟨ad194, e194, hx194_0, hx194_1, hx194_2, hx194_3, hx194_4, hx194_5, hx194_6, hx194_7⟩ := at_T107 HR1.out x7_2 p194 q194
                  have hw194_7 := hx194_7
                  have hw194_6 := hx194_6
                  have hw194_5 := hx194_5
                  have hw194_4 := hx194_4
                  have hw194_3 := hx194_3
                  have hw194_2 := hx194_2
                  have hw194_1 := hx194_1
                  have hw194_0 := hx194_0
                  obtain rfl : ad193 = ad194 := (by injection e194)
                  replace hx194_0 := (hbc HB.out hx194_0).trans hx194_0
                  replace hx194_1 := (hbc HB.out hx194_1).trans hx194_1
                  replace hx194_2 := (hbc HB.out hx194_2).trans hx194_2
                  replace hx194_3 := (hbc HB.out hx194_3).trans hx194_3
                  replace hx194_4 := (hbc HB.out hx194_4).trans hx194_4
                  replace hx194_5 := (hbc HB.out hx194_5).trans hx194_5
                  replace hx194_6 := (hbc HB.out hx194_6).trans hx194_6
                  replace hx194_7 := (hbc HB.out hx194_7).trans hx194_7
                  replace p194 := eq_true p194
                  replace q194 := eq_true q194
                  have p195 : 0 ≤ (x7_2 : Int) := of_decide_eq_true (by first | (with_reducible assumption) | assumption)
                  have q195 : x7_2 < (l1.length : Int) := of_decide_eq_true (by first | (with_reducible assumption) | assumption)
                  obtain ⟨ad195, e195, hx195_0, hx195_1, hx195_2, hx195_3, hx195_4, hx195_5, hx195_6, hx195_7⟩ := at_T107 HR1.out x7_2 p195 q195
                  have hw195_7 := hx195_7
                  have hw195_6 := hx195_6
                  have hw195_5 := hx195_5
                  have hw195_4 := hx195_4
                  have hw195_3 := hx195_3
                  have hw195_2 := hx195_2
                  have hw195_1 := hx195_1
                  have hw195_0 := hx195_0
                  obtain rfl : ad193 = ad195 := (by injection e195)
                  replace hx195_0 := (hbc HB.out hx195_0).trans hx195_0
                  replace hx195_1 := (hbc HB.out hx195_1).trans hx195_1
                  replace hx195_2 := (hbc HB.out hx195_2).trans hx195_2
                  replace hx195_3 := (hbc HB.out hx195_3).trans hx195_3
                  replace hx195_4 := (hbc HB.out hx195_4).trans hx195_4
                  replace hx195_5 := (hbc HB.out hx195_5).trans hx195_5
                  replace hx195_6 := (hbc HB.out hx195_6).trans hx195_6
                  replace hx195_7 := (hbc HB.out hx195_7).trans hx195_7
                  replace p195 := eq_true p195
                  replace q195 := eq_true q195
                  refine start_ (n := 16) (S := fun w' => w'.cell? (ad193.add ((x7_2).toNat * 8)) = some (.int .i64 ((rd_T107 l1 x7_2).f0)) ∧ w'.cell? ⟨(ad193.add ((x7_2).toNat * 8)).block, (ad193.add ((x7_2).toNat * 8)).off + 1, none⟩ = some (.int .i64 ((rd_T107 l1 x7_2).f1)) ∧ w'.cell? ⟨(ad193.add ((x7_2).toNat * 8)).block, (ad193.add ((x7_2).toNat * 8)).off + 2, none⟩ = some (.int .i64 ((rd_T107 l1 x7_2).f2.f0)) ∧ w'.cell? ⟨(ad193.add ((x7_2).toNat * 8)).block, (ad193.add ((x7_2).toNat * 8)).off + 3, none⟩ = some (.bool ((rd_T107 l1 x7_2).f2.f1.f0)) ∧ w'.cell? ⟨(ad193.add ((x7_2).toNat * 8)).block, (ad193.add ((x7_2).toNat * 8)).off + 4, none⟩ = some (.int .i64 ((rd_T107 l1 x7_2).f2.f1.f1)) ∧ w'.cell? ⟨(ad193.add ((x7_2).toNat * 8)).block, (ad193.add ((x7_2).toNat * 8)).off + 5, none⟩ = some (.int .i64 ((rd_T107 l1 x7_2).f2.f1.f2)) ∧ w'.cell? ⟨(ad193.add ((x7_2).toNat * 8)).block, (ad193.add ((x7_2).toNat * 8)).off + 6, none⟩ = some (.string ((rd_T107 l1 x7_2).f2.f2)) ∧ w'.cell? ⟨(ad193.add ((x7_2).toNat * 8)).block, (ad193.add ((x7_2).toNat * 8)).off + 7, none⟩ = some (.bool ((rd_T107 l1 x7_2).f3)) ∧ w'.cell? (ad193.add ((x7_2).toNat * 8)) = some (.int .i64 ((rd_T107 l1 x7_2).f0)) ∧ w'.cell? ⟨(ad193.add ((x7_2).toNat * 8)).block, (ad193.add ((x7_2).toNat * 8)).off + 1, none⟩ = some (.int .i64 ((rd_T107 l1 x7_2).f1)) ∧ w'.cell? ⟨(ad193.add ((x7_2).toNat * 8)).block, (ad193.add ((x7_2).toNat * 8)).off + 2, none⟩ = some (.int .i64 ((rd_T107 l1 x7_2).f2.f0)) ∧ w'.cell? ⟨(ad193.add ((x7_2).toNat * 8)).block, (ad193.add ((x7_2).toNat * 8)).off + 3, none⟩ = some (.bool ((rd_T107 l1 x7_2).f2.f1.f0)) ∧ w'.cell? ⟨(ad193.add ((x7_2).toNat * 8)).block, (ad193.add ((x7_2).toNat * 8)).off + 4, none⟩ = some (.int .i64 ((rd_T107 l1 x7_2).f2.f1.f1)) ∧ w'.cell? ⟨(ad193.add ((x7_2).toNat * 8)).block, (ad193.add ((x7_2).toNat * 8)).off + 5, none⟩ = some (.int .i64 ((rd_T107 l1 x7_2).f2.f1.f2)) ∧ w'.cell? ⟨(ad193.add ((x7_2).toNat * 8)).block, (ad193.add ((x7_2).toNat * 8)).off + 6, none⟩ = some (.string ((rd_T107 l1 x7_2).f2.f2)) ∧ w'.cell? ⟨(ad193.add ((x7_2).toNat * 8)).block, (ad193.add ((x7_2).toNat * 8)).off + 7, none⟩ = some (.bool ((rd_T107 l1 x7_2).f3)) ∧ w'.cell? (ad193.add ((x7_2).toNat * 8)) = some (.int .i64 ((rd_T107 l1 x7_2).f0)) ∧ w'.cell? ⟨(ad193.add ((x7_2).toNat * 8)).block, (ad193.add ((x7_2).toNat * 8)).off + 1, none⟩ = some (.int .i64 ((rd_T107 l1 x7_2).f1)) ∧ w'.cell? ⟨(ad193.add ((x7_2).toNat * 8)).block, (ad193.add ((x7_2).toNat * 8)).off + 2, none⟩ = some (.int .i64 ((rd_T107 l1 x7_2).f2.f0)) ∧ w'.cell? ⟨(ad193.add ((x7_2).toNat * 8)).block, (ad193.add ((x7_2).toNat * 8)).off + 3, none⟩ = some (.bool ((rd_T107 l1 x7_2).f2.f1.f0)) ∧ w'.cell? ⟨(ad193.add ((x7_2).toNat * 8)).block, (ad193.add ((x7_2).toNat * 8)).off + 4, none⟩ = some (.int .i64 ((rd_T107 l1 x7_2).f2.f1.f1)) ∧ w'.cell? ⟨(ad193.add ((x7_2).toNat * 8)).block, (ad193.add ((x7_2).toNat * 8)).off + 5, none⟩ = some (.int .i64 ((rd_T107 l1 x7_2).f2.f1.f2)) ∧ w'.cell? ⟨(ad193.add ((x7_2).toNat * 8)).block, (ad193.add ((x7_2).toNat * 8)).off + 6, none⟩ = some (.string ((rd_T107 l1 x7_2).f2.f2)) ∧ w'.cell? ⟨(ad193.add ((x7_2).toNat * 8)).block, (ad193.add ((x7_2).toNat * 8)).off + 7, none⟩ = some (.bool ((rd_T107 l1 x7_2).f3))) (ds := []) bt4_116 (by kernel_rfl) rfl rfl ⟨(hbt HB.out hw193_0), (hbt HB.out hw193_1), (hbt HB.out hw193_2), (hbt HB.out hw193_3), (hbt HB.out hw193_4), (hbt HB.out hw193_5), (hbt HB.out hw193_6), (hbt HB.out hw193_7), (hbt HB.out hw194_0), (hbt HB.out hw194_1), (hbt HB.out hw194_2), (hbt HB.out hw194_3), (hbt HB.out hw194_4), (hbt HB.out hw194_5), (hbt HB.out hw194_6), (hbt HB.out hw194_7), (hbt HB.out hw195_0), (hbt HB.out hw195_1), (hbt HB.out hw195_2), (hbt HB.out hw195_3), (hbt HB.out hw195_4), (hbt HB.out hw195_5), (hbt HB.out hw195_6), (hbt HB.out hw195_7)⟩ (fun hHeld => ?_); refine with_tabW impl_Differ.tab17 impl_Differ.bits17 (fun HT_ HW_ => ?_)
                  generalize wc.drew = w75 at HO_5 HB hx193_0 hx193_1 hx193_2 hx193_3 hx193_4 hx193_5 hx193_6 hx193_7 hx194_0 hx194_1 hx194_2 hx194_3 hx194_4 hx194_5 hx194_6 hx194_7 hx195_0 hx195_1 hx195_2 hx195_3 hx195_4 hx195_5 hx195_6 hx195_7 hHeld ⊢
                  refine pure_ (i := 0) (N := some 137) (v := ?_) (a' := ?_) bt4_117 rfl rfl (z8q HT_.out (by kernel_rfl)) (fun _ _ _ h => h) (Or.inl ⟨by rfl, ?_⟩) ?_ ?_
                  rotate_left
                  ·intro w'
                   go_simp
                   with_reducible rfl
                  rotate_left
                  ·simp only [Act.put, setIfInBounds_toArray, set_cons_zero, set_cons_succ, i64_w, i32_w]
                   rfl
                  refine pure_ (i := 1) (N := some 138) (v := ?_) (a' := ?_) bt4_118 rfl rfl (z8q HT_.out (by kernel_rfl)) (fun _ _ _ h => h) (Or.inl ⟨by rfl, ?_⟩) ?_ ?_
                  rotate_left
                  ·intro w'
                   go_simp
                   with_reducible rfl
                  rotate_left
                  ·simp only [Act.put, setIfInBounds_toArray, set_cons_zero, set_cons_succ, i64_w, i32_w]
                   rfl
                  refine pure_ (i := 2) (N := some 139) (v := ?_) (a' := ?_) bt4_119 rfl rfl (z8q HT_.out (by kernel_rfl)) (fun _ _ _ h => h) (Or.inl ⟨by rfl, ?_⟩) ?_ ?_
                  rotate_left
                  ·intro w'
                   go_simp
                   with_reducible rfl
                  rotate_left
                  ·simp only [Act.put, setIfInBounds_toArray, set_cons_zero, set_cons_succ, i64_w, i32_w]
                   rfl
                  refine pure_ (i := 4) (N := some 141) (v := ?_) (a' := ?_) bt4_120 rfl rfl (z8q HT_.out (by kernel_rfl)) (fun _ _ _ h => h) (Or.inl ⟨by rfl, ?_⟩) ?_ ?_
                  rotate_left
                  ·intro w'
                   go_simp
                   with_reducible rfl
                  rotate_left
                  ·simp only [Act.put, setIfInBounds_toArray, set_cons_zero, set_cons_succ, i64_w, i32_w]
                   rfl
                  refine pure_ (i := 5) (N := some 142) (v := ?_) (a' := ?_) bt4_121 rfl rfl (z8q HT_.out (by kernel_rfl)) (fun _ _ _ h => h) (Or.inl ⟨by rfl, ?_⟩) ?_ ?_
                  rotate_left
                  ·intro w'
                   go_simp
                   with_reducible rfl
                  rotate_left
                  ·simp only [Act.put, setIfInBounds_toArray, set_cons_zero, set_cons_succ, i64_w, i32_w]
                   rfl
                  refine pure_ (i := 6) (N := some 143) (v := ?_) (a' := ?_) bt4_122 rfl rfl (z8q HT_.out (by kernel_rfl)) (fun _ _ _ h => h) (Or.inl ⟨by rfl, ?_⟩) ?_ ?_
                  rotate_left
                  ·intro w'
                   go_simp
                   with_reducible rfl
                  rotate_left
                  ·simp only [Act.put, setIfInBounds_toArray, set_cons_zero, set_cons_succ, i64_w, i32_w]
                   rfl
                  refine pure_ (i := 7) (N := some 144) (v := ?_) (a' := ?_) bt4_123 rfl rfl (z8q HT_.out (by kernel_rfl)) (fun _ _ _ h => h) (Or.inl ⟨by rfl, ?_⟩) ?_ ?_
                  rotate_left
                  ·intro w'
                   go_simp
                   with_reducible rfl
                  rotate_left
                  ·simp only [Act.put, setIfInBounds_toArray, set_cons_zero, set_cons_succ, i64_w, i32_w]
                   rfl
                  refine pure_ (i := 9) (N := some 146) (v := ?_) (a' := ?_) bt4_124 rfl rfl (z8q HT_.out (by kernel_rfl)) (fun _ _ _ h => h) (Or.inl ⟨by rfl, ?_⟩) ?_ ?_
                  rotate_left
                  ·intro w'
                   go_simp
                   with_reducible rfl
                  rotate_left
                  ·simp only [Act.put, setIfInBounds_toArray, set_cons_zero, set_cons_succ, i64_w, i32_w]
                   rfl
                  refine pure_ (i := 10) (N := some 147) (v := ?_) (a' := ?_) bt4_125 rfl rfl (z8q HT_.out (by kernel_rfl)) (fun _ _ _ h => h) (Or.inl ⟨by rfl, ?_⟩) ?_ ?_
                  rotate_left
                  ·intro w'
                   go_simp
                   with_reducible rfl
                  rotate_left
                  ·simp only [Act.put, setIfInBounds_toArray, set_cons_zero, set_cons_succ, i64_w, i32_w]
                   rfl
                  refine pure_ (i := 11) (N := some 148) (v := ?_) (a' := ?_) bt4_126 rfl rfl (z8q HT_.out (by kernel_rfl)) (fun _ _ _ h => h) (Or.inl ⟨by rfl, ?_⟩) ?_ ?_
                  rotate_left
                  ·intro w'
                   go_simp
                   with_reducible rfl
                  rotate_left
                  ·simp only [Act.put, setIfInBounds_toArray, set_cons_zero, set_cons_succ, i64_w, i32_w]
                   rfl
                  refine pure_ (i := 12) (N := some 149) (v := ?_) (a' := ?_) bt4_127 rfl rfl (z8q HT_.out (by kernel_rfl)) (fun _ _ _ h => h) (Or.inl ⟨by rfl, ?_⟩) ?_ ?_
                  rotate_left
                  ·intro w'
                   go_simp
                   with_reducible rfl
                  rotate_left
                  ·simp only [Act.put, setIfInBounds_toArray, set_cons_zero, set_cons_succ, i64_w, i32_w]
                   rfl
                  refine take_ (i := 3) (N := some 140) (v := ?_) (a' := ?_) bt4_128 rfl rfl (z19q HT_.out HW_.out (by kernel_rfl)) (fun _ _ _ h => h) (Or.inl ⟨by rfl, ?_⟩) hHeld ?_ ?_
                  rotate_left
                  ·rintro w' ⟨s0, s1, s2, s3, s4, s5, s6, s7, s8, s9, s10, s11, s12, s13, s14, s15, s16, s17, s18, s19, s20, s21, s22, s23⟩
                   go_simp
                   with_reducible rfl
                  rotate_left
                  ·simp only [Act.put, setIfInBounds_toArray, set_cons_zero, set_cons_succ, i64_w, i32_w]
                   rfl
                  refine take_ (i := 8) (N := some 145) (v := ?_) (a' := ?_) bt4_129 rfl rfl (z19q HT_.out HW_.out (by kernel_rfl)) (fun _ _ _ h => h) (Or.inl ⟨by rfl, ?_⟩) hHeld ?_ ?_
                  rotate_left
                  ·rintro w' ⟨s0, s1, s2, s3, s4, s5, s6, s7, s8, s9, s10, s11, s12, s13, s14, s15, s16, s17, s18, s19, s20, s21, s22, s23⟩
                   go_simp
                   with_reducible rfl
                  rotate_left
                  ·simp only [Act.put, setIfInBounds_toArray, set_cons_zero, set_cons_succ, i64_w, i32_w]
                   rfl
                  refine take_ (i := 13) (N := some 150) (v := ?_) (a' := ?_) bt4_130 rfl rfl (z19q HT_.out HW_.out (by kernel_rfl)) (fun _ _ _ h => h) (Or.inl ⟨by rfl, ?_⟩) hHeld ?_ ?_
                  rotate_left
                  ·rintro w' ⟨s0, s1, s2, s3, s4, s5, s6, s7, s8, s9, s10, s11, s12, s13, s14, s15, s16, s17, s18, s19, s20, s21, s22, s23⟩
                   go_simp
                   with_reducible rfl
                  rotate_left
                  ·simp only [Act.put, setIfInBounds_toArray, set_cons_zero, set_cons_succ, i64_w, i32_w]
                   rfl
                  refine pure_ (i := 14) (N := some 151) (v := ?_) (a' := ?_) bt4_131 rfl rfl (z8q HT_.out (by kernel_rfl)) (fun _ _ _ h => h) (Or.inl ⟨by rfl, ?_⟩) ?_ ?_
                  rotate_left
                  ·intro w'
                   go_simp
                   with_reducible rfl
                  rotate_left
                  ·simp only [Act.put, setIfInBounds_toArray, set_cons_zero, set_cons_succ, i64_w, i32_w]
                   rfl
                  refine pure_ (i := 15) (N := some 152) (v := ?_) (a' := ?_) bt4_132 rfl rfl (z8q HT_.out (by kernel_rfl)) (fun _ _ _ h => h) (Or.inl ⟨by rfl, ?_⟩) ?_ ?_
                  rotate_left
                  ·intro w'
                   go_simp
                   with_reducible rfl
                  rotate_left
                  ·simp only [Act.put, setIfInBounds_toArray, set_cons_zero, set_cons_succ, i64_w, i32_w]
                   rfl
                  refine done_ (done_of HT_.out (by kernel_rfl)) ?_
                  try go_wp2
                  go_roundg kj57
                  case measure => have := HJ2.out; have := HK2.out; have := HJ12.out; have := HJ15.out; have := HJ57.out; omega
                  case rel => exact ⟨(x5_2), (x6_2), (wrap64 (x7_2 + 1)), (by first | rfl | (simp; done) | (simp [*]; done) | (simp; unfold wrap64; omega)), (by first | rfl | (simp; done) | (simp [*]; done) | (simp; unfold wrap64; omega)), H', ⟨by have := HJ2.out; have := HK2.out; have := HJ12.out; have := HJ15.out; have := HJ57.out; omega⟩, ⟨by (with_reducible repeat (first | apply Kd.R_alloc | apply Kd.R_drewN | apply Kd.R_drew)); exact HO_5.out⟩, ⟨by repeat (first | (with_reducible first | exact HB.out | apply z7q | apply z3q | apply z4q) | exact HB.out)⟩⟩
                ·rw [if_neg c70] at H
                 exact absurd H (by simp)
               ·rw [if_neg c69] at H
                exact absurd H (by simp)
              ·replace c68 := Bool.eq_false_iff.mpr c68
               subst c68
               have H1 : (if 0 ≤ x6_2 then (if x6_2 < (l0.length : Int) then (if 0 ≤ x7_2 then (if x7_2 < (l1.length : Int) then (if (!(((rd_T107 l0 x6_2).f0) == ((rd_T107 l1 x7_2).f0)) || (!(((rd_T107 l0 x6_2).f1) == ((rd_T107 l1 x7_2).f1)) || ((!(((rd_T107 l0 x6_2).f2.f0) == ((rd_T107 l1 x7_2).f2.f0)) || ((!(((rd_T107 l0 x6_2).f2.f1.f0) == ((rd_T107 l1 x7_2).f2.f1.f0)) || (!(((rd_T107 l0 x6_2).f2.f1.f1) == ((rd_T107 l1 x7_2).f2.f1.f1)) || (!(((rd_T107 l0 x6_2).f2.f1.f2) == ((rd_T107 l1 x7_2).f2.f1.f2))))) || (!((((rd_T107 l0 x6_2).f2.f2).toList) == (((rd_T107 l1 x7_2).f2.f2).toList))))) || (!(((rd_T107 l0 x6_2).f3) == ((rd_T107 l1 x7_2).f3)))))) = true then (if x5_2.length < 1954687338268 then (impl_Differ.l0 kj57 l0 l1 (x5_2 ++ [(⟨(rd_T107 l1 x7_2).f0, (rd_T107 l1 x7_2).f1, (⟨(rd_T107 l1 x7_2).f2.f0, (⟨(rd_T107 l1 x7_2).f2.f1.f0, (rd_T107 l1 x7_2).f2.f1.f1, (rd_T107 l1 x7_2).f2.f1.f2⟩ : S103), (rd_T107 l1 x7_2).f2.f2⟩ : S105), (rd_T107 l1 x7_2).f3⟩ : S107)]) (wrap64 (x6_2 + 1)) (wrap64 (x7_2 + 1))) else (none)) else (impl_Differ.l0 kj57 l0 l1 x5_2 (wrap64 (x6_2 + 1)) (wrap64 (x7_2 + 1)))) else (none)) else (none)) else (none)) else (none)) = some r := by rw [if_neg (show ¬ (false = true) by decide)] at H; exact H
               clear H
               have H := H1
               clear H1
               by_cases c76 : 0 ≤ x6_2
               ·rw [if_pos c76] at H
                have c76b0 : decide (0 ≤ x6_2) = true := decide_eq_true c76
                clear c76
                by_cases c77 : x6_2 < (l0.length : Int)
                ·rw [if_pos c77] at H
                 have c77b0 : decide (x6_2 < (l0.length : Int)) = true := decide_eq_true c77
                 clear c77
                 by_cases c78 : 0 ≤ x7_2
                 ·rw [if_pos c78] at H
                  have c78b0 : decide (0 ≤ x7_2) = true := decide_eq_true c78
                  clear c78
                  by_cases c79 : x7_2 < (l1.length : Int)
                  ·rw [if_pos c79] at H
                   have c79b0 : decide (x7_2 < (l1.length : Int)) = true := decide_eq_true c79
                   clear c79
                   by_cases c80 : (!(((rd_T107 l0 x6_2).f0) == ((rd_T107 l1 x7_2).f0)) || (!(((rd_T107 l0 x6_2).f1) == ((rd_T107 l1 x7_2).f1)) || ((!(((rd_T107 l0 x6_2).f2.f0) == ((rd_T107 l1 x7_2).f2.f0)) || ((!(((rd_T107 l0 x6_2).f2.f1.f0) == ((rd_T107 l1 x7_2).f2.f1.f0)) || (!(((rd_T107 l0 x6_2).f2.f1.f1) == ((rd_T107 l1 x7_2).f2.f1.f1)) || (!(((rd_T107 l0 x6_2).f2.f1.f2) == ((rd_T107 l1 x7_2).f2.f1.f2))))) || (!((((rd_T107 l0 x6_2).f2.f2).toList) == (((rd_T107 l1 x7_2).f2.f2).toList))))) || (!(((rd_T107 l0 x6_2).f3) == ((rd_T107 l1 x7_2).f3)))))) = true
                   ·rw [if_pos c80] at H
                    have c80b0 : (!(((rd_T107 l0 x6_2).f0) == ((rd_T107 l1 x7_2).f0)) || (!(((rd_T107 l0 x6_2).f1) == ((rd_T107 l1 x7_2).f1)) || ((!(((rd_T107 l0 x6_2).f2.f0) == ((rd_T107 l1 x7_2).f2.f0)) || ((!(((rd_T107 l0 x6_2).f2.f1.f0) == ((rd_T107 l1 x7_2).f2.f1.f0)) || (!(((rd_T107 l0 x6_2).f2.f1.f1) == ((rd_T107 l1 x7_2).f2.f1.f1)) || (!(((rd_T107 l0 x6_2).f2.f1.f2) == ((rd_T107 l1 x7_2).f2.f1.f2))))) || (!((((rd_T107 l0 x6_2).f2.f2).toList) == (((rd_T107 l1 x7_2).f2.f2).toList))))) || (!(((rd_T107 l0 x6_2).f3) == ((rd_T107 l1 x7_2).f3)))))) = true := c80
                    clear c80
                    by_cases c81 : x5_2.length < 1954687338268
                    ·skip
                     rw [if_pos c81] at H
                     have LMc81 := Aside0.mk c81
                     clear c81
                     obtain ⟨y203, hy203⟩ : ∃ y_ : List (S107), y_ = (x5_2 ++ [(⟨(rd_T107 l1 x7_2).f0, (rd_T107 l1 x7_2).f1, (⟨(rd_T107 l1 x7_2).f2.f0, (⟨(rd_T107 l1 x7_2).f2.f1.f0, (rd_T107 l1 x7_2).f2.f1.f1, (rd_T107 l1 x7_2).f2.f1.f2⟩ : S103), (rd_T107 l1 x7_2).f2.f2⟩ : S105), (rd_T107 l1 x7_2).f3⟩ : S107)]) := ⟨_, rfl⟩
                     replace H : (impl_Differ.l0 kj57 l0 l1 y203 (wrap64 (x6_2 + 1)) (wrap64 (x7_2 + 1))) = some r := by first | (rw [hy203]; with_reducible exact H) | (have H2_ := (Option.bind_some _ _).symm.trans H; rw [hy203]; with_reducible exact H2_) | (have H2_ := (Option.bind_some _ _).symm.trans H; with_reducible exact H2_) | with_reducible exact H | (rw [hy203]; exact H) | exact H
                     have Ny203 := Aside0.mk hy203
                     clear hy203
                     have H' := Aside0.mk H
                     clear H
                     try go_wp2
                     have n0_ := Aside0.mk (Kd.R_drew HO_5.out)
                     have n1_ := Aside0.mk (z4q HB.out)
                     clear HO_5
                     clear HB
                     have HO_5 := n0_
                     have HB := n1_
                     clear n0_ n1_
                     have p200 : 0 ≤ (x6_2 : Int) := of_decide_eq_true (by first | (with_reducible assumption) | assumption)
                     have q200 : x6_2 < (l0.length : Int) := of_decide_eq_true (by first | (with_reducible assumption) | assumption)
                     obtain ⟨ad200, e200, hx200_0, hx200_1, hx200_2, hx200_3, hx200_4, hx200_5, hx200_6, hx200_7⟩ := at_T107 HR0.out x6_2 p200 q200
                     have hw200_7 := hx200_7
                     have hw200_6 := hx200_6
                     have hw200_5 := hx200_5
                     have hw200_4 := hx200_4
                     have hw200_3 := hx200_3
                     have hw200_2 := hx200_2
                     have hw200_1 := hx200_1
                     have hw200_0 := hx200_0
                     cases e200
                     replace hx200_0 := (hbc HB.out hx200_0).trans hx200_0
                     replace hx200_1 := (hbc HB.out hx200_1).trans hx200_1
                     replace hx200_2 := (hbc HB.out hx200_2).trans hx200_2
                     replace hx200_3 := (hbc HB.out hx200_3).trans hx200_3
                     replace hx200_4 := (hbc HB.out hx200_4).trans hx200_4
                     replace hx200_5 := (hbc HB.out hx200_5).trans hx200_5
                     replace hx200_6 := (hbc HB.out hx200_6).trans hx200_6
                     replace hx200_7 := (hbc HB.out hx200_7).trans hx200_7
                     replace p200 := eq_true p200
                     replace q200 := eq_true q200
                     have p201 : 0 ≤ (x7_2 : Int) := of_decide_eq_true (by first | (with_reducible assumption) | assumption)
                     have q201 : x7_2 < (l1.length : Int) := of_decide_eq_true (by first | (with_reducible assumption) | assumption)
                     obtain ⟨ad201, e201, hx201_0, hx201_1, hx201_2, hx201_3, hx201_4, hx201_5, hx201_6, hx201_7⟩ := at_T107 HR1.out x7_2 p201 q201
                     have hw201_7 := hx201_7
                     have hw201_6 := hx201_6
                     have hw201_5 := hx201_5
                     have hw201_4 := hx201_4
                     have hw201_3 := hx201_3
                     have hw201_2 := hx201_2
                     have hw201_1 := hx201_1
                     have hw201_0 := hx201_0
                     cases e201
                     replace hx201_0 := (hbc HB.out hx201_0).trans hx201_0
                     replace hx201_1 := (hbc HB.out hx201_1).trans hx201_1
                     replace hx201_2 := (hbc HB.out hx201_2).trans hx201_2
                     replace hx201_3 := (hbc HB.out hx201_3).trans hx201_3
                     replace hx201_4 := (hbc HB.out hx201_4).trans hx201_4
                     replace hx201_5 := (hbc HB.out hx201_5).trans hx201_5
                     replace hx201_6 := (hbc HB.out hx201_6).trans hx201_6
                     replace hx201_7 := (hbc HB.out hx201_7).trans hx201_7
                     replace p201 := eq_true p201
                     replace q201 := eq_true q201
                     refine start_ (n := 9) (S := fun w' => w'.cell? (ad200.add ((x6_2).toNat * 8)) = some (.int .i64 ((rd_T107 l0 x6_2).f0)) ∧ w'.cell? ⟨(ad200.add ((x6_2).toNat * 8)).block, (ad200.add ((x6_2).toNat * 8)).off + 1, none⟩ = some (.int .i64 ((rd_T107 l0 x6_2).f1)) ∧ w'.cell? ⟨(ad200.add ((x6_2).toNat * 8)).block, (ad200.add ((x6_2).toNat * 8)).off + 2, none⟩ = some (.int .i64 ((rd_T107 l0 x6_2).f2.f0)) ∧ w'.cell? ⟨(ad200.add ((x6_2).toNat * 8)).block, (ad200.add ((x6_2).toNat * 8)).off + 3, none⟩ = some (.bool ((rd_T107 l0 x6_2).f2.f1.f0)) ∧ w'.cell? ⟨(ad200.add ((x6_2).toNat * 8)).block, (ad200.add ((x6_2).toNat * 8)).off + 4, none⟩ = some (.int .i64 ((rd_T107 l0 x6_2).f2.f1.f1)) ∧ w'.cell? ⟨(ad200.add ((x6_2).toNat * 8)).block, (ad200.add ((x6_2).toNat * 8)).off + 5, none⟩ = some (.int .i64 ((rd_T107 l0 x6_2).f2.f1.f2)) ∧ w'.cell? ⟨(ad200.add ((x6_2).toNat * 8)).block, (ad200.add ((x6_2).toNat * 8)).off + 6, none⟩ = some (.string ((rd_T107 l0 x6_2).f2.f2)) ∧ w'.cell? ⟨(ad200.add ((x6_2).toNat * 8)).block, (ad200.add ((x6_2).toNat * 8)).off + 7, none⟩ = some (.bool ((rd_T107 l0 x6_2).f3)) ∧ w'.cell? (ad201.add ((x7_2).toNat * 8)) = some (.int .i64 ((rd_T107 l1 x7_2).f0)) ∧ w'.cell? ⟨(ad201.add ((x7_2).toNat * 8)).block, (ad201.add ((x7_2).toNat * 8)).off + 1, none⟩ = some (.int .i64 ((rd_T107 l1 x7_2).f1)) ∧ w'.cell? ⟨(ad201.add ((x7_2).toNat * 8)).block, (ad201.add ((x7_2).toNat * 8)).off + 2, none⟩ = some (.int .i64 ((rd_T107 l1 x7_2).f2.f0)) ∧ w'.cell? ⟨(ad201.add ((x7_2).toNat * 8)).block, (ad201.add ((x7_2).toNat * 8)).off + 3, none⟩ = some (.bool ((rd_T107 l1 x7_2).f2.f1.f0)) ∧ w'.cell? ⟨(ad201.add ((x7_2).toNat * 8)).block, (ad201.add ((x7_2).toNat * 8)).off + 4, none⟩ = some (.int .i64 ((rd_T107 l1 x7_2).f2.f1.f1)) ∧ w'.cell? ⟨(ad201.add ((x7_2).toNat * 8)).block, (ad201.add ((x7_2).toNat * 8)).off + 5, none⟩ = some (.int .i64 ((rd_T107 l1 x7_2).f2.f1.f2)) ∧ w'.cell? ⟨(ad201.add ((x7_2).toNat * 8)).block, (ad201.add ((x7_2).toNat * 8)).off + 6, none⟩ = some (.string ((rd_T107 l1 x7_2).f2.f2)) ∧ w'.cell? ⟨(ad201.add ((x7_2).toNat * 8)).block, (ad201.add ((x7_2).toNat * 8)).off + 7, none⟩ = some (.bool ((rd_T107 l1 x7_2).f3))) (ds := []) bt4_133 (by kernel_rfl) rfl rfl ⟨(hbt HB.out hw200_0), (hbt HB.out hw200_1), (hbt HB.out hw200_2), (hbt HB.out hw200_3), (hbt HB.out hw200_4), (hbt HB.out hw200_5), (hbt HB.out hw200_6), (hbt HB.out hw200_7), (hbt HB.out hw201_0), (hbt HB.out hw201_1), (hbt HB.out hw201_2), (hbt HB.out hw201_3), (hbt HB.out hw201_4), (hbt HB.out hw201_5), (hbt HB.out hw201_6), (hbt HB.out hw201_7)⟩ (fun hHeld => ?_); refine with_tabW impl_Differ.tab7 impl_Differ.bits7 (fun HT_ HW_ => ?_)
                     generalize wc.drew = w82 at HO_5 HB hx200_0 hx200_1 hx200_2 hx200_3 hx200_4 hx200_5 hx200_6 hx200_7 hx201_0 hx201_1 hx201_2 hx201_3 hx201_4 hx201_5 hx201_6 hx201_7 hHeld ⊢
                     refine pure_ (i := 0) (N := some 28) (v := ?_) (a' := ?_) bt4_134 rfl rfl (z8q HT_.out (by kernel_rfl)) (fun _ _ _ h => h) (Or.inl ⟨by rfl, ?_⟩) ?_ ?_
                     rotate_left
                     ·intro w'
                      go_simp
                      with_reducible rfl
                     rotate_left
                     ·simp only [Act.put, setIfInBounds_toArray, set_cons_zero, set_cons_succ, i64_w, i32_w]
                      rfl
                     refine pure_ (i := 1) (N := some 29) (v := ?_) (a' := ?_) bt4_135 rfl rfl (z8q HT_.out (by kernel_rfl)) (fun _ _ _ h => h) (Or.inl ⟨by rfl, ?_⟩) ?_ ?_
                     rotate_left
                     ·intro w'
                      go_simp
                      with_reducible rfl
                     rotate_left
                     ·simp only [Act.put, setIfInBounds_toArray, set_cons_zero, set_cons_succ, i64_w, i32_w]
                      rfl
                     refine pure_ (i := 2) (N := some 30) (v := ?_) (a' := ?_) bt4_136 rfl rfl (z8q HT_.out (by kernel_rfl)) (fun _ _ _ h => h) (Or.inl ⟨by rfl, ?_⟩) ?_ ?_
                     rotate_left
                     ·intro w'
                      go_simp
                      with_reducible rfl
                     rotate_left
                     ·simp only [Act.put, setIfInBounds_toArray, set_cons_zero, set_cons_succ, i64_w, i32_w]
                      rfl
                     refine pure_ (i := 4) (N := some 32) (v := ?_) (a' := ?_) bt4_137 rfl rfl (z8q HT_.out (by kernel_rfl)) (fun _ _ _ h => h) (Or.inl ⟨by rfl, ?_⟩) ?_ ?_
                     rotate_left
                     ·intro w'
                      go_simp
                      with_reducible rfl
                     rotate_left
                     ·simp only [Act.put, setIfInBounds_toArray, set_cons_zero, set_cons_succ, i64_w, i32_w]
                      rfl
                     refine pure_ (i := 5) (N := some 33) (v := ?_) (a' := ?_) bt4_138 rfl rfl (z8q HT_.out (by kernel_rfl)) (fun _ _ _ h => h) (Or.inl ⟨by rfl, ?_⟩) ?_ ?_
                     rotate_left
                     ·intro w'
                      go_simp
                      with_reducible rfl
                     rotate_left
                     ·simp only [Act.put, setIfInBounds_toArray, set_cons_zero, set_cons_succ, i64_w, i32_w]
                      rfl
                     refine pure_ (i := 6) (N := some 34) (v := ?_) (a' := ?_) bt4_139 rfl rfl (z8q HT_.out (by kernel_rfl)) (fun _ _ _ h => h) (Or.inl ⟨by rfl, ?_⟩) ?_ ?_
                     rotate_left
                     ·intro w'
                      go_simp
                      with_reducible rfl
                     rotate_left
                     ·simp only [Act.put, setIfInBounds_toArray, set_cons_zero, set_cons_succ, i64_w, i32_w]
                      rfl
                     refine take_ (i := 3) (N := some 31) (v := ?_) (a' := ?_) bt4_140 rfl rfl (z19q HT_.out HW_.out (by kernel_rfl)) (fun _ _ _ h => h) (Or.inl ⟨by rfl, ?_⟩) hHeld ?_ ?_
                     rotate_left
                     ·rintro w' ⟨s0, s1, s2, s3, s4, s5, s6, s7, s8, s9, s10, s11, s12, s13, s14, s15⟩
                      go_simp
                      with_reducible rfl
                     rotate_left
                     ·simp only [Act.put, setIfInBounds_toArray, set_cons_zero, set_cons_succ, i64_w, i32_w]
                      rfl
                     refine take_ (i := 7) (N := some 35) (v := ?_) (a' := ?_) bt4_141 rfl rfl (z19q HT_.out HW_.out (by kernel_rfl)) (fun _ _ _ h => h) (Or.inl ⟨by rfl, ?_⟩) hHeld ?_ ?_
                     rotate_left
                     ·rintro w' ⟨s0, s1, s2, s3, s4, s5, s6, s7, s8, s9, s10, s11, s12, s13, s14, s15⟩
                      go_simp
                      with_reducible rfl
                     rotate_left
                     ·simp only [Act.put, setIfInBounds_toArray, set_cons_zero, set_cons_succ, i64_w, i32_w]
                      rfl
                     refine pure_ (i := 8) (N := some 36) (v := ?_) (a' := ?_) bt4_142 rfl rfl (z8q HT_.out (by kernel_rfl)) (fun _ _ _ h => h) (Or.inl ⟨by rfl, ?_⟩) ?_ ?_
                     rotate_left
                     ·intro w'
                      go_simp
                      with_reducible rfl
                     rotate_left
                     ·simp only [Act.put, setIfInBounds_toArray, set_cons_zero, set_cons_succ, i64_w, i32_w]
                      rfl
                     refine done_ (done_of HT_.out (by kernel_rfl)) ?_
                     have p202 : 0 ≤ (x7_2 : Int) := of_decide_eq_true (by first | (with_reducible assumption) | assumption)
                     have q202 : x7_2 < (l1.length : Int) := of_decide_eq_true (by first | (with_reducible assumption) | assumption)
                     obtain ⟨ad202, e202, hx202_0, hx202_1, hx202_2, hx202_3, hx202_4, hx202_5, hx202_6, hx202_7⟩ := at_T107 HR1.out x7_2 p202 q202
                     obtain rfl : ad201 = ad202 := (by injection e202)
                     replace hx202_0 := (hbc HB.out hx202_0).trans hx202_0
                     replace hx202_1 := (hbc HB.out hx202_1).trans hx202_1
                     replace hx202_2 := (hbc HB.out hx202_2).trans hx202_2
                     replace hx202_3 := (hbc HB.out hx202_3).trans hx202_3
                     replace hx202_4 := (hbc HB.out hx202_4).trans hx202_4
                     replace hx202_5 := (hbc HB.out hx202_5).trans hx202_5
                     replace hx202_6 := (hbc HB.out hx202_6).trans hx202_6
                     replace hx202_7 := (hbc HB.out hx202_7).trans hx202_7
                     replace p202 := eq_true p202
                     replace q202 := eq_true q202
                     try go_wp2_with (first | ((with_reducible refine gate_builtin (b := .append) (xs := #[.tmp 37, .tmp 42]) rfl ?_); (try (refine gate_guard (by rfl) ?_; dsimp only)); at_builtin; refine Kd.R_append k107 (w0 := w) w.heap.size rfl (.tmp 37) (.tmp 42) 60 107 (.agg #[(.int .i64 0), (.int .i64 0), (.int .i64 0), (.bool false), (.int .i64 0), (.int .i64 0), (.string ⟨#[]⟩), (.bool false)]) 72 rfl Try.underlying60 info107 rfl (by decide) (by omega) u5 x5_2 (⟨(rd_T107 l1 x7_2).f0, (rd_T107 l1 x7_2).f1, (⟨(rd_T107 l1 x7_2).f2.f0, (⟨(rd_T107 l1 x7_2).f2.f1.f0, (rd_T107 l1 x7_2).f2.f1.f1, (rd_T107 l1 x7_2).f2.f1.f2⟩ : S103), (rd_T107 l1 x7_2).f2.f2⟩ : S105), (rd_T107 l1 x7_2).f3⟩ : S107) [.int .i64 ((rd_T107 l1 x7_2).f0), .int .i64 ((rd_T107 l1 x7_2).f1), .int .i64 ((rd_T107 l1 x7_2).f2.f0), .bool ((rd_T107 l1 x7_2).f2.f1.f0), .int .i64 ((rd_T107 l1 x7_2).f2.f1.f1), .int .i64 ((rd_T107 l1 x7_2).f2.f1.f2), .string ((rd_T107 l1 x7_2).f2.f2), .bool ((rd_T107 l1 x7_2).f3)] (fun _ => True) (fun _ => False) rfl rfl ?aP (fun _ hk => hk.elim) ?aF ?aO ?aB ?aS ?aL ?_; (case aP => exact k107_mkM _ _ _ (⟨(rd_T107 l1 x7_2).f0, (rd_T107 l1 x7_2).f1, (⟨(rd_T107 l1 x7_2).f2.f0, (⟨(rd_T107 l1 x7_2).f2.f1.f0, (rd_T107 l1 x7_2).f2.f1.f1, (rd_T107 l1 x7_2).f2.f1.f2⟩ : S103), (rd_T107 l1 x7_2).f2.f2⟩ : S105), (rd_T107 l1 x7_2).f3⟩ : S107)); (case aB => exact (ibh HB.out)); (case aF => exact (fun _ _ => trivial)); (case aO => exact (ro HO_5.out)); (case aS => exact (z5q (ibh HB.out))); (case aL => have := LMc81.out; omega); intro v204 w83 ho hb hg hat; rw [← Ny203.out] at ho; have n0_ := Aside0.mk (hb); have n1_ := Aside0.mk (ho); clear HB; clear HO_5; have HB := n0_; have HO205 := n1_; clear n0_ n1_; clear ho hb hg hat))
                     go_roundg kj57
                     case measure => have := HJ2.out; have := HK2.out; have := HJ12.out; have := HJ15.out; have := HJ57.out; omega
                     case rel => exact ⟨(y203), (wrap64 (x6_2 + 1)), (wrap64 (x7_2 + 1)), (by first | rfl | (simp; done) | (simp [*]; done) | (simp; unfold wrap64; omega)), (by first | rfl | (simp; done) | (simp [*]; done) | (simp; unfold wrap64; omega)), H', ⟨by have := HJ2.out; have := HK2.out; have := HJ12.out; have := HJ15.out; have := HJ57.out; omega⟩, ⟨by (with_reducible repeat (first | apply Kd.R_alloc | apply Kd.R_drewN | apply Kd.R_drew)); exact HO205.out⟩, ⟨by repeat (first | (with_reducible first | exact HB.out | apply z7q | apply z3q | apply z4q) | exact HB.out)⟩⟩
                    ·rw [if_neg c81] at H
                     exact absurd H (by simp)
                   ·as_aux_lemma =>
                    rw [if_neg c80] at H
                    have c80b0 : (!(((rd_T107 l0 x6_2).f0) == ((rd_T107 l1 x7_2).f0)) || (!(((rd_T107 l0 x6_2).f1) == ((rd_T107 l1 x7_2).f1)) || ((!(((rd_T107 l0 x6_2).f2.f0) == ((rd_T107 l1 x7_2).f2.f0)) || ((!(((rd_T107 l0 x6_2).f2.f1.f0) == ((rd_T107 l1 x7_2).f2.f1.f0)) || (!(((rd_T107 l0 x6_2).f2.f1.f1) == ((rd_T107 l1 x7_2).f2.f1.f1)) || (!(((rd_T107 l0 x6_2).f2.f1.f2) == ((rd_T107 l1 x7_2).f2.f1.f2))))) || (!((((rd_T107 l0 x6_2).f2.f2).toList) == (((rd_T107 l1 x7_2).f2.f2).toList))))) || (!(((rd_T107 l0 x6_2).f3) == ((rd_T107 l1 x7_2).f3)))))) = false := by simpa using c80
                    clear c80
                    have H' := Aside0.mk H
                    clear H
                    try go_wp2
                    have n0_ := Aside0.mk (Kd.R_drew HO_5.out)
                    have n1_ := Aside0.mk (z4q HB.out)
                    clear HO_5
                    clear HB
                    have HO_5 := n0_
                    have HB := n1_
                    clear n0_ n1_
                    have p200 : 0 ≤ (x6_2 : Int) := of_decide_eq_true (by first | (with_reducible assumption) | assumption)
                    have q200 : x6_2 < (l0.length : Int) := of_decide_eq_true (by first | (with_reducible assumption) | assumption)
                    obtain ⟨ad200, e200, hx200_0, hx200_1, hx200_2, hx200_3, hx200_4, hx200_5, hx200_6, hx200_7⟩ := at_T107 HR0.out x6_2 p200 q200
                    have hw200_7 := hx200_7
                    have hw200_6 := hx200_6
                    have hw200_5 := hx200_5
                    have hw200_4 := hx200_4
                    have hw200_3 := hx200_3
                    have hw200_2 := hx200_2
                    have hw200_1 := hx200_1
                    have hw200_0 := hx200_0
                    cases e200
                    replace hx200_0 := (hbc HB.out hx200_0).trans hx200_0
                    replace hx200_1 := (hbc HB.out hx200_1).trans hx200_1
                    replace hx200_2 := (hbc HB.out hx200_2).trans hx200_2
                    replace hx200_3 := (hbc HB.out hx200_3).trans hx200_3
                    replace hx200_4 := (hbc HB.out hx200_4).trans hx200_4
                    replace hx200_5 := (hbc HB.out hx200_5).trans hx200_5
                    replace hx200_6 := (hbc HB.out hx200_6).trans hx200_6
                    replace hx200_7 := (hbc HB.out hx200_7).trans hx200_7
                    replace p200 := eq_true p200
                    replace q200 := eq_true q200
                    have p201 : 0 ≤ (x7_2 : Int) := of_decide_eq_true (by first | (with_reducible assumption) | assumption)
                    have q201 : x7_2 < (l1.length : Int) := of_decide_eq_true (by first | (with_reducible assumption) | assumption)
                    obtain ⟨ad201, e201, hx201_0, hx201_1, hx201_2, hx201_3, hx201_4, hx201_5, hx201_6, hx201_7⟩ := at_T107 HR1.out x7_2 p201 q201
                    have hw201_7 := hx201_7
                    have hw201_6 := hx201_6
                    have hw201_5 := hx201_5
                    have hw201_4 := hx201_4
                    have hw201_3 := hx201_3
                    have hw201_2 := hx201_2
                    have hw201_1 := hx201_1
                    have hw201_0 := hx201_0
                    cases e201
                    replace hx201_0 := (hbc HB.out hx201_0).trans hx201_0
                    replace hx201_1 := (hbc HB.out hx201_1).trans hx201_1
                    replace hx201_2 := (hbc HB.out hx201_2).trans hx201_2
                    replace hx201_3 := (hbc HB.out hx201_3).trans hx201_3
                    replace hx201_4 := (hbc HB.out hx201_4).trans hx201_4
                    replace hx201_5 := (hbc HB.out hx201_5).trans hx201_5
                    replace hx201_6 := (hbc HB.out hx201_6).trans hx201_6
                    replace hx201_7 := (hbc HB.out hx201_7).trans hx201_7
                    replace p201 := eq_true p201
                    replace q201 := eq_true q201
                    refine start_ (n := 9) (S := fun w' => w'.cell? (ad200.add ((x6_2).toNat * 8)) = some (.int .i64 ((rd_T107 l0 x6_2).f0)) ∧ w'.cell? ⟨(ad200.add ((x6_2).toNat * 8)).block, (ad200.add ((x6_2).toNat * 8)).off + 1, none⟩ = some (.int .i64 ((rd_T107 l0 x6_2).f1)) ∧ w'.cell? ⟨(ad200.add ((x6_2).toNat * 8)).block, (ad200.add ((x6_2).toNat * 8)).off + 2, none⟩ = some (.int .i64 ((rd_T107 l0 x6_2).f2.f0)) ∧ w'.cell? ⟨(ad200.add ((x6_2).toNat * 8)).block, (ad200.add ((x6_2).toNat * 8)).off + 3, none⟩ = some (.bool ((rd_T107 l0 x6_2).f2.f1.f0)) ∧ w'.cell? ⟨(ad200.add ((x6_2).toNat * 8)).block, (ad200.add ((x6_2).toNat * 8)).off + 4, none⟩ = some (.int .i64 ((rd_T107 l0 x6_2).f2.f1.f1)) ∧ w'.cell? ⟨(ad200.add ((x6_2).toNat * 8)).block, (ad200.add ((x6_2).toNat * 8)).off + 5, none⟩ = some (.int .i64 ((rd_T107 l0 x6_2).f2.f1.f2)) ∧ w'.cell? ⟨(ad200.add ((x6_2).toNat * 8)).block, (ad200.add ((x6_2).toNat * 8)).off + 6, none⟩ = some (.string ((rd_T107 l0 x6_2).f2.f2)) ∧ w'.cell? ⟨(ad200.add ((x6_2).toNat * 8)).block, (ad200.add ((x6_2).toNat * 8)).off + 7, none⟩ = some (.bool ((rd_T107 l0 x6_2).f3)) ∧ w'.cell? (ad201.add ((x7_2).toNat * 8)) = some (.int .i64 ((rd_T107 l1 x7_2).f0)) ∧ w'.cell? ⟨(ad201.add ((x7_2).toNat * 8)).block, (ad201.add ((x7_2).toNat * 8)).off + 1, none⟩ = some (.int .i64 ((rd_T107 l1 x7_2).f1)) ∧ w'.cell? ⟨(ad201.add ((x7_2).toNat * 8)).block, (ad201.add ((x7_2).toNat * 8)).off + 2, none⟩ = some (.int .i64 ((rd_T107 l1 x7_2).f2.f0)) ∧ w'.cell? ⟨(ad201.add ((x7_2).toNat * 8)).block, (ad201.add ((x7_2).toNat * 8)).off + 3, none⟩ = some (.bool ((rd_T107 l1 x7_2).f2.f1.f0)) ∧ w'.cell? ⟨(ad201.add ((x7_2).toNat * 8)).block, (ad201.add ((x7_2).toNat * 8)).off + 4, none⟩ = some (.int .i64 ((rd_T107 l1 x7_2).f2.f1.f1)) ∧ w'.cell? ⟨(ad201.add ((x7_2).toNat * 8)).block, (ad201.add ((x7_2).toNat * 8)).off + 5, none⟩ = some (.int .i64 ((rd_T107 l1 x7_2).f2.f1.f2)) ∧ w'.cell? ⟨(ad201.add ((x7_2).toNat * 8)).block, (ad201.add ((x7_2).toNat * 8)).off + 6, none⟩ = some (.string ((rd_T107 l1 x7_2).f2.f2)) ∧ w'.cell? ⟨(ad201.add ((x7_2).toNat * 8)).block, (ad201.add ((x7_2).toNat * 8)).off + 7, none⟩ = some (.bool ((rd_T107 l1 x7_2).f3))) (ds := []) bt4_133 (by kernel_rfl) rfl rfl ⟨(hbt HB.out hw200_0), (hbt HB.out hw200_1), (hbt HB.out hw200_2), (hbt HB.out hw200_3), (hbt HB.out hw200_4), (hbt HB.out hw200_5), (hbt HB.out hw200_6), (hbt HB.out hw200_7), (hbt HB.out hw201_0), (hbt HB.out hw201_1), (hbt HB.out hw201_2), (hbt HB.out hw201_3), (hbt HB.out hw201_4), (hbt HB.out hw201_5), (hbt HB.out hw201_6), (hbt HB.out hw201_7)⟩ (fun hHeld => ?_); refine with_tabW impl_Differ.tab7 impl_Differ.bits7 (fun HT_ HW_ => ?_)
                    generalize wc.drew = w84 at HO_5 HB hx200_0 hx200_1 hx200_2 hx200_3 hx200_4 hx200_5 hx200_6 hx200_7 hx201_0 hx201_1 hx201_2 hx201_3 hx201_4 hx201_5 hx201_6 hx201_7 hHeld ⊢
                    refine pure_ (i := 0) (N := some 28) (v := ?_) (a' := ?_) bt4_134 rfl rfl (z8q HT_.out (by kernel_rfl)) (fun _ _ _ h => h) (Or.inl ⟨by rfl, ?_⟩) ?_ ?_
                    rotate_left
                    ·intro w'
                     go_simp
                     with_reducible rfl
                    rotate_left
                    ·simp only [Act.put, setIfInBounds_toArray, set_cons_zero, set_cons_succ, i64_w, i32_w]
                     rfl
                    refine pure_ (i := 1) (N := some 29) (v := ?_) (a' := ?_) bt4_135 rfl rfl (z8q HT_.out (by kernel_rfl)) (fun _ _ _ h => h) (Or.inl ⟨by rfl, ?_⟩) ?_ ?_
                    rotate_left
                    ·intro w'
                     go_simp
                     with_reducible rfl
                    rotate_left
                    ·simp only [Act.put, setIfInBounds_toArray, set_cons_zero, set_cons_succ, i64_w, i32_w]
                     rfl
                    refine pure_ (i := 2) (N := some 30) (v := ?_) (a' := ?_) bt4_136 rfl rfl (z8q HT_.out (by kernel_rfl)) (fun _ _ _ h => h) (Or.inl ⟨by rfl, ?_⟩) ?_ ?_
                    rotate_left
                    ·intro w'
                     go_simp
                     with_reducible rfl
                    rotate_left
                    ·simp only [Act.put, setIfInBounds_toArray, set_cons_zero, set_cons_succ, i64_w, i32_w]
                     rfl
                    refine pure_ (i := 4) (N := some 32) (v := ?_) (a' := ?_) bt4_137 rfl rfl (z8q HT_.out (by kernel_rfl)) (fun _ _ _ h => h) (Or.inl ⟨by rfl, ?_⟩) ?_ ?_
                    rotate_left
                    ·intro w'
                     go_simp
                     with_reducible rfl
                    rotate_left
                    ·simp only [Act.put, setIfInBounds_toArray, set_cons_zero, set_cons_succ, i64_w, i32_w]
                     rfl
                    refine pure_ (i := 5) (N := some 33) (v := ?_) (a' := ?_) bt4_138 rfl rfl (z8q HT_.out (by kernel_rfl)) (fun _ _ _ h => h) (Or.inl ⟨by rfl, ?_⟩) ?_ ?_
                    rotate_left
                    ·intro w'
                     go_simp
                     with_reducible rfl
                    rotate_left
                    ·simp only [Act.put, setIfInBounds_toArray, set_cons_zero, set_cons_succ, i64_w, i32_w]
                     rfl
                    refine pure_ (i := 6) (N := some 34) (v := ?_) (a' := ?_) bt4_139 rfl rfl (z8q HT_.out (by kernel_rfl)) (fun _ _ _ h => h) (Or.inl ⟨by rfl, ?_⟩) ?_ ?_
                    rotate_left
                    ·intro w'
                     go_simp
                     with_reducible rfl
                    rotate_left
                    ·simp only [Act.put, setIfInBounds_toArray, set_cons_zero, set_cons_succ, i64_w, i32_w]
                     rfl
                    refine take_ (i := 3) (N := some 31) (v := ?_) (a' := ?_) bt4_140 rfl rfl (z19q HT_.out HW_.out (by kernel_rfl)) (fun _ _ _ h => h) (Or.inl ⟨by rfl, ?_⟩) hHeld ?_ ?_
                    rotate_left
                    ·rintro w' ⟨s0, s1, s2, s3, s4, s5, s6, s7, s8, s9, s10, s11, s12, s13, s14, s15⟩
                     go_simp
                     with_reducible rfl
                    rotate_left
                    ·simp only [Act.put, setIfInBounds_toArray, set_cons_zero, set_cons_succ, i64_w, i32_w]
                     rfl
                    refine take_ (i := 7) (N := some 35) (v := ?_) (a' := ?_) bt4_141 rfl rfl (z19q HT_.out HW_.out (by kernel_rfl)) (fun _ _ _ h => h) (Or.inl ⟨by rfl, ?_⟩) hHeld ?_ ?_
                    rotate_left
                    ·rintro w' ⟨s0, s1, s2, s3, s4, s5, s6, s7, s8, s9, s10, s11, s12, s13, s14, s15⟩
                     go_simp
                     with_reducible rfl
                    rotate_left
                    ·simp only [Act.put, setIfInBounds_toArray, set_cons_zero, set_cons_succ, i64_w, i32_w]
                     rfl
                    refine pure_ (i := 8) (N := some 36) (v := ?_) (a' := ?_) bt4_142 rfl rfl (z8q HT_.out (by kernel_rfl)) (fun _ _ _ h => h) (Or.inl ⟨by rfl, ?_⟩) ?_ ?_
                    rotate_left
                    ·intro w'
                     go_simp
                     with_reducible rfl
                    rotate_left
                    ·simp only [Act.put, setIfInBounds_toArray, set_cons_zero, set_cons_succ, i64_w, i32_w]
                     rfl
                    refine done_ (done_of HT_.out (by kernel_rfl)) ?_
                    try go_wp2
                    go_roundg kj57
                    case measure => have := HJ2.out; have := HK2.out; have := HJ12.out; have := HJ15.out; have := HJ57.out; omega
                    case rel => exact ⟨(x5_2), (wrap64 (x6_2 + 1)), (wrap64 (x7_2 + 1)), (by first | rfl | (simp; done) | (simp [*]; done) | (simp; unfold wrap64; omega)), (by first | rfl | (simp; done) | (simp [*]; done) | (simp; unfold wrap64; omega)), H', ⟨by have := HJ2.out; have := HK2.out; have := HJ12.out; have := HJ15.out; have := HJ57.out; omega⟩, ⟨by (with_reducible repeat (first | apply Kd.R_alloc | apply Kd.R_drewN | apply Kd.R_drew)); exact HO_5.out⟩, ⟨by repeat (first | (with_reducible first | exact HB.out | apply z7q | apply z3q | apply z4q) | exact HB.out)⟩⟩
                  ·rw [if_neg c79] at H
                   exact absurd H (by simp)
                 ·rw [if_neg c78] at H
                  exact absurd H (by simp)
                ·rw [if_neg c77] at H
                 exact absurd H (by simp)
               ·rw [if_neg c76] at H
                exact absurd H (by simp)
        ·replace c15 := Bool.eq_false_iff.mpr c15
         subst c15
         have H1 : (some x5_2) = some r := by rw [if_neg (show ¬ (false = true) by decide)] at H; exact H
         clear H
         have H := H1
         clear H1
         obtain rfl := Option.some.inj H
         go_wp2
         go_ret
         exact ⟨_, by first | rfl | (simp [errW_none, errW_some] <;> rfl) | (simp [*, errW_none, errW_some] <;> rfl), by (with_reducible repeat (first | apply Kd.R_alloc | apply Kd.R_drewN | apply Kd.R_drew)); exact HO_5.out, by repeat (first | (with_reducible first | exact HB.out | apply z7q | apply z3q | apply z4q) | exact HB.out)⟩

set_option maxHeartbeats 100000000 in
set_option maxRecDepth 100000 in
theorem impl_Differ.calls (k : Nat) (A0 : Option Addr) (c0 : Nat) (l0 : List (S107)) (A1 : Option Addr) (c1 : Nat) (l1 : List (S107)) (r : List (S107)) (w : World) (hr0 : Kd.C k107 w A0 l0.length l0) (hc0 : l0.length ≤ c0) (hr1 : Kd.C k107 w A1 l1.length l1) (hc1 : l1.length ≤ c1) (h : impl_Differ.f k l0 l1 = some r) :
  Calls Try.prog 34 #[.slice A0 l0.length c0, .slice A1 l1.length c1] w fun e w' => ∃ v0_ : Value, e = .returned (v0_) ∧ Kd.R k107 107 w' w.heap.size (fun _ => True) v0_ r ∧ Below w.heap.size w w' := by
 have H : ((impl_rising.f k l0).bind fun t171 => (if t171 = true then ((impl_rising.f k l1).bind fun t172 => (impl_Differ.j0 k l0 l1 (!t172))) else (impl_Differ.j0 k l0 l1 true))) = some r := h
 exact impl_Differ.calls_p1 k A0 c0 l0 A1 c1 l1 r w hr0 hc0 hr1 hc1 H

/-! ### laws_eqDec: function 95 -/

end Go.Proofs.Ytojfkjggpdlngaa.PFnExactDiffer
