/- Functions of the program as Lean functions, and proofs that the Go code comes to their answers: for the law FnExactDiffer; made out of the print by a program of mine (compact.py). No conditions but each theorem's own. -/
import Derived.Test.YtojfkjggpdlngaaMFnExactDiffera0
namespace Go.Proofs.Ytojfkjggpdlngaa.PFnExactDiffer
open List (map_toArray map_cons map_nil length_drop length_take set_cons_zero set_cons_succ setIfInBounds_toArray)
open Go.RowKit Go.Proofs.YtojfkjggpdlngaaW.PrintWords Go.Proofs.YtojfkjggpdlngaaW.PrintLast Go.Proofs.YtojfkjggpdlngaaW.PrintMore
attribute [local go_sem] max2_int min2_int max_two min_two max_three min_three max_four min_four   -- for this text's walks alone
set_option linter.unusedVariables false
set_option linter.unusedSimpArgs false

attribute [local go_sem high] eqA107
theorem wpAbs {P : Program} {c : Code} {Q : Exit → Act → World → Prop} {a : Act} {W : World} (Φ : World → Prop) (h : Φ W) (k : ∀ w, Φ w → Code.wp P c Q a w) : Code.wp P c Q a W := k W h
theorem far8c {W : World} {a : Addr} {g : Nat} (h : a.block ≠ g) (u0 u1 u2 u3 u4 u5 u6 u7 : Value) : ((((((((W.setCell ⟨g, 0, none⟩ u0).setCell ⟨g, 1, none⟩ u1).setCell ⟨g, 2, none⟩ u2).setCell ⟨g, 3, none⟩ u3).setCell ⟨g, 4, none⟩ u4).setCell ⟨g, 5, none⟩ u5).setCell ⟨g, 6, none⟩ u6).setCell ⟨g, 7, none⟩ u7).cell? a = W.cell? a := (z2q h u7).trans ((z2q h u6).trans ((z2q h u5).trans ((z2q h u4).trans ((z2q h u3).trans ((z2q h u2).trans ((z2q h u1).trans (z2q h u0)))))))
class Dn (w v : World) : Prop where c : ∃ m, v = w.drewN m
instance dnN {w : World} {n : Nat} : Dn w (w.drewN n) := ⟨n, rfl⟩
instance dnS {w v : World} {a : Addr} {u : Value} [h : Dn w v] : Dn (w.setCell a u) (v.setCell a u) := ⟨h.c.elim fun m e => ⟨m, by rw [e]; rfl⟩⟩
theorem nilTo (X : ByteArray) : (X.toList == (⟨#[]⟩ : ByteArray).toList) = X.toList.isEmpty := by
 rw [show (⟨#[]⟩ : ByteArray).toList = ([] : List UInt8) from by rw [ByteArray.toList_eq]]
 cases X.toList <;> rfl
theorem dnc {w v : World} {a : Addr} {x : Value} (h : w.cell? a = some x) [k : Dn w v] : v.cell? a = some x := k.c.elim fun m e => by rw [e]; exact h
set_option maxHeartbeats 100000000 in
set_option maxRecDepth 100000 in
theorem spec_Differ.calls_p1 (k : Nat) (A0 : Option Addr) (c0 : Nat) (l0 : List (S107)) (A1 : Option Addr) (c1 : Nat) (l1 : List (S107)) (r : List (S107)) (w : World) (hr0 : Kd.C k107 w A0 l0.length l0) (hc0 : l0.length ≤ c0) (hr1 : Kd.C k107 w A1 l1.length l1) (hc1 : l1.length ≤ c1) (H : ((spec_l9Rising.f k l0).bind fun t111 => (if t111 = true then ((spec_l9Rising.f k l1).bind fun t112 => (spec_Differ.j0 k l0 l1 (!t112))) else (spec_Differ.j0 k l0 l1 true))) = some r) :
  Calls Try.prog 32 #[.slice A0 l0.length c0, .slice A1 l1.length c1] w fun e w' => ∃ v0_ : Value, e = .returned (v0_) ∧ Kd.R k107 107 w' w.heap.size (fun _ => True) v0_ r ∧ Below w.heap.size w w' := by
 have hu107 := Try.underlying107
 have HR0 := Aside0.mk hr0
 have HC0 := Aside0.mk hc0
 clear hr0 hc0
 have HR1 := Aside0.mk hr1
 have HC1 := Aside0.mk hc1
 clear hr1 hc1
 have HB := Aside0.mk (Below.refl w.heap.size w)
 have HC3 := Aside0.mk H
 clear H
 go_enter Try.func32, Try.ntmps32
 go_upto_region 1 with (fail)
 repeat (go_quiet (fail); go_upto_region 1 with (fail))
 go_cut [19] (fun v19 wc => ∃ (kq : Nat) (x19_2 : Bool), v19 = .bool x19_2 ∧ Aside0 (spec_Differ.j0 kq l0 l1 x19_2 = some r) ∧ Aside0 (kq ≤ k) ∧ Aside0 (Below w.heap.size w wc))
 case first =>
  have H := HC3.out
  clear HC3
  replace H := Option.bind_eq_some_iff.mp H
  obtain ⟨t111, A40, H⟩ := H
  replace H : (if t111 = true then ((spec_l9Rising.f k l1).bind fun t112 => (spec_Differ.j0 k l0 l1 (!t112))) else (spec_Differ.j0 k l0 l1 true)) = some r := H
  have A4 := Aside0.mk A40
  clear A40
  by_cases c5 : t111 = true
  ·subst c5
   have H1 : ((spec_l9Rising.f k l1).bind fun t112 => (spec_Differ.j0 k l0 l1 (!t112))) = some r := by rw [if_pos rfl] at H; exact H
   clear H
   have H := H1
   clear H1
   replace H := Option.bind_eq_some_iff.mp H
   obtain ⟨t112, A60, H⟩ := H
   replace H : (spec_Differ.j0 k l0 l1 (!t112)) = some r := H
   have A6 := Aside0.mk A60
   clear A60
   have H' := Aside0.mk H
   clear H
   go_wp2_with (first | (go_at_call 68; (with_reducible refine (spec_l9Rising.calls k _ _ l0 true _ ?side1 ?side2 A4.out).mono ?_); (case side1 => exact Kd.C_below HR0.out ib); (case side2 => exact HC0.out); rintro e w' ⟨rfl, ⟨nd, rfl⟩⟩; (try first | exact ⟨rfl, _, World.drewN_drewN _ _ _⟩ | exact ⟨rfl, _, Eq.trans (World.drewN_drewN _ _ _) (congrArg (World.drewN _) (Nat.add_assoc _ _ _))⟩)) | (go_at_call 68; (with_reducible refine (spec_l9Rising.calls k _ _ l1 t112 _ ?side1 ?side2 A6.out).mono ?_); (case side1 => repeat (first | exact (Kd.C_below HR1.out (ibh HB.out)) | (with_reducible refine Kd.C_alloc ?_ _) | (with_reducible refine Kd.C_drewN ?_ _) | (with_reducible refine Kd.C_drew ?_))); (case side2 => exact HC1.out); rintro e w' ⟨rfl, ⟨nd, rfl⟩⟩; (try first | exact ⟨rfl, _, World.drewN_drewN _ _ _⟩ | exact ⟨rfl, _, Eq.trans (World.drewN_drewN _ _ _) (congrArg (World.drewN _) (Nat.add_assoc _ _ _))⟩)))
   repeat (go_quiet (first | (go_at_call 68; (with_reducible refine (spec_l9Rising.calls k _ _ l0 true _ ?side1 ?side2 A4.out).mono ?_); (case side1 => exact Kd.C_below HR0.out ib); (case side2 => exact HC0.out); rintro e w' ⟨rfl, ⟨nd, rfl⟩⟩; (try first | exact ⟨rfl, _, World.drewN_drewN _ _ _⟩ | exact ⟨rfl, _, Eq.trans (World.drewN_drewN _ _ _) (congrArg (World.drewN _) (Nat.add_assoc _ _ _))⟩)) | (go_at_call 68; (with_reducible refine (spec_l9Rising.calls k _ _ l1 t112 _ ?side1 ?side2 A6.out).mono ?_); (case side1 => repeat (first | exact (Kd.C_below HR1.out (ibh HB.out)) | (with_reducible refine Kd.C_alloc ?_ _) | (with_reducible refine Kd.C_drewN ?_ _) | (with_reducible refine Kd.C_drew ?_))); (case side2 => exact HC1.out); rintro e w' ⟨rfl, ⟨nd, rfl⟩⟩; (try first | exact ⟨rfl, _, World.drewN_drewN _ _ _⟩ | exact ⟨rfl, _, Eq.trans (World.drewN_drewN _ _ _) (congrArg (World.drewN _) (Nat.add_assoc _ _ _))⟩))); try go_wp2_with (first | (go_at_call 68; (with_reducible refine (spec_l9Rising.calls k _ _ l0 true _ ?side1 ?side2 A4.out).mono ?_); (case side1 => exact Kd.C_below HR0.out ib); (case side2 => exact HC0.out); rintro e w' ⟨rfl, ⟨nd, rfl⟩⟩; (try first | exact ⟨rfl, _, World.drewN_drewN _ _ _⟩ | exact ⟨rfl, _, Eq.trans (World.drewN_drewN _ _ _) (congrArg (World.drewN _) (Nat.add_assoc _ _ _))⟩)) | (go_at_call 68; (with_reducible refine (spec_l9Rising.calls k _ _ l1 t112 _ ?side1 ?side2 A6.out).mono ?_); (case side1 => repeat (first | exact (Kd.C_below HR1.out (ibh HB.out)) | (with_reducible refine Kd.C_alloc ?_ _) | (with_reducible refine Kd.C_drewN ?_ _) | (with_reducible refine Kd.C_drew ?_))); (case side2 => exact HC1.out); rintro e w' ⟨rfl, ⟨nd, rfl⟩⟩; (try first | exact ⟨rfl, _, World.drewN_drewN _ _ _⟩ | exact ⟨rfl, _, Eq.trans (World.drewN_drewN _ _ _) (congrArg (World.drewN _) (Nat.add_assoc _ _ _))⟩))))
   go_meet
   case rel => exact ⟨_, (!t112), (by first | rfl | (simp; done) | (simp [*]; done) | (simp; unfold wrap64; omega)), H', ⟨by first | omega | exact Nat.le_refl _⟩, ⟨by repeat (first | (with_reducible first | exact HB.out | apply z7q | apply z3q | apply z4q) | exact HB.out)⟩⟩
  ·replace c5 := Bool.eq_false_iff.mpr c5
   subst c5
   have H1 : (spec_Differ.j0 k l0 l1 true) = some r := by rw [if_neg (show ¬ (false = true) by decide)] at H; exact H
   clear H
   have H := H1
   clear H1
   have H' := Aside0.mk H
   clear H
   go_wp2_with (first | (go_at_call 68; (with_reducible refine (spec_l9Rising.calls k _ _ l0 false _ ?side1 ?side2 A4.out).mono ?_); (case side1 => exact Kd.C_below HR0.out ib); (case side2 => exact HC0.out); rintro e w' ⟨rfl, ⟨nd, rfl⟩⟩; (try first | exact ⟨rfl, _, World.drewN_drewN _ _ _⟩ | exact ⟨rfl, _, Eq.trans (World.drewN_drewN _ _ _) (congrArg (World.drewN _) (Nat.add_assoc _ _ _))⟩)))
   repeat (go_quiet (first | (go_at_call 68; (with_reducible refine (spec_l9Rising.calls k _ _ l0 false _ ?side1 ?side2 A4.out).mono ?_); (case side1 => exact Kd.C_below HR0.out ib); (case side2 => exact HC0.out); rintro e w' ⟨rfl, ⟨nd, rfl⟩⟩; (try first | exact ⟨rfl, _, World.drewN_drewN _ _ _⟩ | exact ⟨rfl, _, Eq.trans (World.drewN_drewN _ _ _) (congrArg (World.drewN _) (Nat.add_assoc _ _ _))⟩))); try go_wp2_with (first | (go_at_call 68; (with_reducible refine (spec_l9Rising.calls k _ _ l0 false _ ?side1 ?side2 A4.out).mono ?_); (case side1 => exact Kd.C_below HR0.out ib); (case side2 => exact HC0.out); rintro e w' ⟨rfl, ⟨nd, rfl⟩⟩; (try first | exact ⟨rfl, _, World.drewN_drewN _ _ _⟩ | exact ⟨rfl, _, Eq.trans (World.drewN_drewN _ _ _) (congrArg (World.drewN _) (Nat.add_assoc _ _ _))⟩))))
   go_meet
   case rel => exact ⟨_, (true), (by first | rfl | (simp; done) | (simp [*]; done) | (simp; unfold wrap64; omega)), H', ⟨by first | omega | exact Nat.le_refl _⟩, ⟨by repeat (first | (with_reducible first | exact HB.out | apply z7q | apply z3q | apply z4q) | exact HB.out)⟩⟩
 case rest =>
  clear HC3
  try clear c1
  try clear p2
  try clear c3
  try clear c5
  obtain ⟨kq, x19_2, rfl, HA, HJ2, HB⟩ := hcut
  cases kq with
  | zero => exact absurd HA.out (by simp [spec_Differ.j0])
  | succ kj2 =>
   have H := HA.out
   clear HA
   simp only [spec_Differ.j0] at H
   by_cases c7 : x19_2 = true
   ·subst c7
    have H1 : (some ([] : List (S107))) = some r := by rw [if_pos rfl] at H; exact H
    clear H
    have H := H1
    clear H1
    obtain rfl := Option.some.inj H
    go_wp2
    repeat (go_quiet (fail); try go_wp2)
    go_ret
    exact ⟨_, by first | rfl | (simp [errW_none, errW_some] <;> rfl) | (simp [*, errW_none, errW_some] <;> rfl), by first | exact Kd.R_nil _ _ _ _ _ | exact Kd.N_nil _ _ _ _ _ | exact Kd.V_nil _ _ _ _ _ | exact Kd.Q_nil _ _ _ _ _ | exact Kd.S_nil _ _ _ _ _, by repeat (first | (with_reducible first | exact HB.out | apply z7q | apply z3q | apply z4q) | exact HB.out)⟩
   ·replace c7 := Bool.eq_false_iff.mpr c7
    subst c7
    have H1 : (spec_Differ.l0 kj2 l0 l1 ([] : List (S107)) 0 0) = some r := by rw [if_neg (show ¬ (false = true) by decide)] at H; exact H
    clear H
    have H := H1
    clear H1
    have H' := Aside0.mk H
    clear H
    go_wp2
    repeat (go_quiet (fail); try go_wp2)
    go_loopg [5, 6, 7] kj2 (fun kq v5 v6 v7 w' => ∃ (x5_2 : List (S107)) (x6_2 : Int) (x7_2 : Int), v6 = .int .i64 x6_2 ∧ v7 = .int .i64 x7_2 ∧ Aside0 (spec_Differ.l0 kq l0 l1 x5_2 x6_2 x7_2 = some r) ∧ Aside0 (kq ≤ kj2) ∧ Aside0 (Kd.R k107 107 w' w.heap.size (fun _ => True) v5 x5_2) ∧ Aside0 (Below w.heap.size w w'))
    case atStart => exact ⟨(([] : List (S107))), (0), (0), (by first | rfl | (simp; done) | (simp [*]; done) | (simp; unfold wrap64; omega)), (by first | rfl | (simp; done) | (simp [*]; done) | (simp; unfold wrap64; omega)), H', ⟨Nat.le_refl _⟩, ⟨by first | exact Kd.R_nil _ _ _ _ _ | exact Kd.N_nil _ _ _ _ _ | exact Kd.V_nil _ _ _ _ _ | exact Kd.Q_nil _ _ _ _ _ | exact Kd.S_nil _ _ _ _ _⟩, ⟨by repeat (first | (with_reducible first | exact HB.out | apply z7q | apply z3q | apply z4q) | exact HB.out)⟩⟩
    case round =>
     clear H'
     try clear c1
     try clear p2
     try clear c3
     try clear c5
     try clear c7
     try clear p2
     obtain ⟨x5_2, x6_2, x7_2, rfl, rfl, HA, HK2, HO_5, HB⟩ := hrel
     cases gk with
     | zero => exact absurd HA.out (by simp [spec_Differ.l0])
     | succ k2 =>
      have H := HA.out
      clear HA
      simp only [spec_Differ.l0] at H
      have HC8 := Aside0.mk H
      clear H
      go_upto_region 6 with (fail)
      repeat (go_quiet (fail); go_upto_region 6 with (fail))
      go_cut [29] (fun v29 wc => ∃ (kq : Nat) (x29_7 : Bool), v29 = .bool x29_7 ∧ Aside0 (spec_Differ.j2 kq l0 l1 x5_2 x6_2 x7_2 x29_7 = some r) ∧ Aside0 (kq ≤ k2) ∧ Aside0 (Kd.R k107 107 wc w.heap.size (fun _ => True) u5 x5_2) ∧ Aside0 (Below w.heap.size w wc))
      case first =>
       have H := HC8.out
       clear HC8
       by_cases c9 : x6_2 < (l0.length : Int)
       ·rw [if_pos c9] at H
        have c9b0 : decide (x6_2 < (l0.length : Int)) = true := decide_eq_true c9
        clear c9
        (first | rw [c9b0] | (simp only [i64_w, i32_w]; rw [c9b0]) | skip)
        have H' := Aside0.mk H
        clear H
        go_wp2
        repeat (go_quiet (fail); try go_wp2)
        go_meet
        case rel => exact ⟨_, (true), (by first | rfl | (simp; done) | (simp [*]; done) | (simp; unfold wrap64; omega)), H', ⟨by have := HJ2.out; have := HK2.out; first | omega | exact Nat.le_refl _⟩, ⟨by (with_reducible repeat (first | apply Kd.R_alloc | apply Kd.R_drewN | apply Kd.R_drew)); exact HO_5.out⟩, ⟨by repeat (first | (with_reducible first | exact HB.out | apply z7q | apply z3q | apply z4q) | exact HB.out)⟩⟩
       ·rw [if_neg c9] at H
        have c9b0 : decide (x6_2 < (l0.length : Int)) = false := decide_eq_false c9
        clear c9
        (first | rw [c9b0] | (simp only [i64_w, i32_w]; rw [c9b0]) | skip)
        have H' := Aside0.mk H
        clear H
        go_wp2
        repeat (go_quiet (fail); try go_wp2)
        go_meet
        case rel => exact ⟨_, (decide (x7_2 < (l1.length : Int))), (by first | rfl | (simp; done) | (simp [*]; done) | (simp; unfold wrap64; omega)), H', ⟨by have := HJ2.out; have := HK2.out; first | omega | exact Nat.le_refl _⟩, ⟨by (with_reducible repeat (first | apply Kd.R_alloc | apply Kd.R_drewN | apply Kd.R_drew)); exact HO_5.out⟩, ⟨by repeat (first | (with_reducible first | exact HB.out | apply z7q | apply z3q | apply z4q) | exact HB.out)⟩⟩
      case rest =>
       clear HC8
       try clear c1
       try clear p2
       try clear c3
       try clear c5
       try clear c7
       try clear c9
       try clear c9b0
       try clear p2
       obtain ⟨kq, x29_7, rfl, HA, HJ7, HO_5, HB⟩ := hcut
       cases kq with
       | zero => exact absurd HA.out (by simp [spec_Differ.j2])
       | succ kj7 =>
        have H := HA.out
        clear HA
        simp only [spec_Differ.j2] at H
        by_cases c10 : x29_7 = true
        ·subst c10
         have H1 : (if x6_2 < (l0.length : Int) then (if 0 ≤ x6_2 then (spec_Differ.j3 kj7 l0 l1 x5_2 x6_2 x7_2 ((rd_T107 l0 x6_2).f0) ((rd_T107 l0 x6_2).f1)) else (none)) else (spec_Differ.j3 kj7 l0 l1 x5_2 x6_2 x7_2 0 0)) = some r := by rw [if_pos rfl] at H; exact H
         clear H
         have H := H1
         clear H1
         have HC11 := Aside0.mk H
         clear H
         go_upto_if 33 with (fail)
         repeat (go_quiet (fail); go_upto_if 33 with (fail))
         go_cut [8, 9] (fun v8 v9 wc => ∃ (kq : Nat) (x8_10 : Int) (x9_10 : Int), v8 = .int .i64 x8_10 ∧ v9 = .int .i64 x9_10 ∧ Aside0 (spec_Differ.j3 kq l0 l1 x5_2 x6_2 x7_2 x8_10 x9_10 = some r) ∧ Aside0 (kq ≤ kj7) ∧ Aside0 (Kd.R k107 107 wc w.heap.size (fun _ => True) u5 x5_2) ∧ Aside0 (Below w.heap.size w wc))
         case first =>
          have H := HC11.out
          clear HC11
          by_cases c12 : x6_2 < (l0.length : Int)
          ·rw [if_pos c12] at H
           have c12b0 : decide (x6_2 < (l0.length : Int)) = true := decide_eq_true c12
           clear c12
           (first | rw [c12b0] | (simp only [i64_w, i32_w]; rw [c12b0]) | skip)
           by_cases c13 : 0 ≤ x6_2
           ·rw [if_pos c13] at H
            have c13b0 : decide (0 ≤ x6_2) = true := decide_eq_true c13
            clear c13
            have H' := Aside0.mk H
            clear H
            have p113 : 0 ≤ (x6_2 : Int) := of_decide_eq_true (by first | (with_reducible assumption) | assumption)
            have q113 : x6_2 < (l0.length : Int) := of_decide_eq_true (by first | (with_reducible assumption) | assumption)
            obtain ⟨ad113, e113, hx113_0, hx113_1, hx113_2, hx113_3, hx113_4, hx113_5, hx113_6, hx113_7⟩ := at_T107 HR0.out x6_2 p113 q113
            cases e113
            replace hx113_0 := (hbc HB.out hx113_0).trans hx113_0
            replace hx113_1 := (hbc HB.out hx113_1).trans hx113_1
            replace hx113_2 := (hbc HB.out hx113_2).trans hx113_2
            replace hx113_3 := (hbc HB.out hx113_3).trans hx113_3
            replace hx113_4 := (hbc HB.out hx113_4).trans hx113_4
            replace hx113_5 := (hbc HB.out hx113_5).trans hx113_5
            replace hx113_6 := (hbc HB.out hx113_6).trans hx113_6
            replace hx113_7 := (hbc HB.out hx113_7).trans hx113_7
            replace p113 := eq_true p113
            replace q113 := eq_true q113
            have p114 : 0 ≤ (x6_2 : Int) := of_decide_eq_true (by first | (with_reducible assumption) | assumption)
            have q114 : x6_2 < (l0.length : Int) := of_decide_eq_true (by first | (with_reducible assumption) | assumption)
            obtain ⟨ad114, e114, hx114_0, hx114_1, hx114_2, hx114_3, hx114_4, hx114_5, hx114_6, hx114_7⟩ := at_T107 HR0.out x6_2 p114 q114
            obtain rfl : ad113 = ad114 := (by injection e114)
            replace hx114_0 := (hbc HB.out hx114_0).trans hx114_0
            replace hx114_1 := (hbc HB.out hx114_1).trans hx114_1
            replace hx114_2 := (hbc HB.out hx114_2).trans hx114_2
            replace hx114_3 := (hbc HB.out hx114_3).trans hx114_3
            replace hx114_4 := (hbc HB.out hx114_4).trans hx114_4
            replace hx114_5 := (hbc HB.out hx114_5).trans hx114_5
            replace hx114_6 := (hbc HB.out hx114_6).trans hx114_6
            replace hx114_7 := (hbc HB.out hx114_7).trans hx114_7
            replace p114 := eq_true p114
            replace q114 := eq_true q114
            go_wp2
            repeat (go_quiet (fail); try go_wp2)
            go_meet
            case rel => exact ⟨_, ((rd_T107 l0 x6_2).f0), ((rd_T107 l0 x6_2).f1), (by first | rfl | (simp; done) | (simp [*]; done) | (simp; unfold wrap64; omega)), (by first | rfl | (simp; done) | (simp [*]; done) | (simp; unfold wrap64; omega)), H', ⟨by have := HJ2.out; have := HK2.out; have := HJ7.out; first | omega | exact Nat.le_refl _⟩, ⟨by (with_reducible repeat (first | apply Kd.R_alloc | apply Kd.R_drewN | apply Kd.R_drew)); exact HO_5.out⟩, ⟨by repeat (first | (with_reducible first | exact HB.out | apply z7q | apply z3q | apply z4q) | exact HB.out)⟩⟩
           ·rw [if_neg c13] at H
            exact absurd H (by simp)
          ·rw [if_neg c12] at H
           have c12b0 : decide (x6_2 < (l0.length : Int)) = false := decide_eq_false c12
           clear c12
           (first | rw [c12b0] | (simp only [i64_w, i32_w]; rw [c12b0]) | skip)
           have H' := Aside0.mk H
           clear H
           go_wp2
           repeat (go_quiet (fail); try go_wp2)
           go_meet
           case rel => exact ⟨_, (0), (0), (by first | rfl | (simp; done) | (simp [*]; done) | (simp; unfold wrap64; omega)), (by first | rfl | (simp; done) | (simp [*]; done) | (simp; unfold wrap64; omega)), H', ⟨by have := HJ2.out; have := HK2.out; have := HJ7.out; first | omega | exact Nat.le_refl _⟩, ⟨by (with_reducible repeat (first | apply Kd.R_alloc | apply Kd.R_drewN | apply Kd.R_drew)); exact HO_5.out⟩, ⟨by repeat (first | (with_reducible first | exact HB.out | apply z7q | apply z3q | apply z4q) | exact HB.out)⟩⟩
         case rest =>
          clear HC11
          try clear c1
          try clear p1
          try clear q1
          try clear hx1
          try clear p2
          try clear c3
          try clear c5
          try clear c7
          try clear c9
          try clear c9b0
          try clear c10
          try clear p11
          try clear q11
          try clear hx11
          try clear c12
          try clear c12b0
          try clear c13
          try clear c13b0
          try clear hx113_0
          try clear hx113_1
          try clear hx113_2
          try clear hx113_3
          try clear hx113_4
          try clear hx113_5
          try clear hx113_6
          try clear hx113_7
          try clear hx114_0
          try clear hx114_1
          try clear hx114_2
          try clear hx114_3
          try clear hx114_4
          try clear hx114_5
          try clear hx114_6
          try clear hx114_7
          try clear p113
          try clear p114
          try clear p2
          try clear q113
          try clear q114
          obtain ⟨kq, x8_10, x9_10, rfl, rfl, HA, HJ10, HO_5, HB⟩ := hcut
          cases kq with
          | zero => exact absurd HA.out (by simp [spec_Differ.j3])
          | succ kj10 =>
           have H := HA.out
           clear HA
           simp only [spec_Differ.j3] at H
           have HC14 := Aside0.mk H
           clear H
           go_upto_region 12 with (fail)
           repeat (go_quiet (fail); go_upto_region 12 with (fail))
           go_cut [68] (fun v68 wc => ∃ (kq : Nat) (x68_13 : Bool), v68 = .bool x68_13 ∧ Aside0 (spec_Differ.j4 kq l0 l1 x5_2 x6_2 x7_2 x8_10 x9_10 x68_13 = some r) ∧ Aside0 (kq ≤ kj10) ∧ Aside0 (Kd.R k107 107 wc w.heap.size (fun _ => True) u5 x5_2) ∧ Aside0 (Below w.heap.size w wc))
           case first =>
            have H := HC14.out
            clear HC14
            by_cases c15 : x7_2 < (l1.length : Int)
            ·as_aux_lemma =>
             rw [if_pos c15] at H
             have c15b0 : decide (x7_2 < (l1.length : Int)) = true := decide_eq_true c15
             clear c15
             (first | rw [c15b0] | (simp only [i64_w, i32_w]; rw [c15b0]) | skip)
             by_cases c16 : x6_2 = (l0.length : Int)
             ·rw [if_pos c16] at H
              have c16b0 : (x6_2 == (l0.length : Int)) = true := beq_iff_eq.mpr c16
              have c16b1 : (x6_2 != (l0.length : Int)) = false := bne_eq_false_iff_eq.mpr c16
              clear c16
              have H' := Aside0.mk H
              clear H
              go_wp2
              repeat (go_quiet (fail); try go_wp2)
              go_meet
              case rel => exact ⟨_, (true), (by first | rfl | (simp; done) | (simp [*]; done) | (simp; unfold wrap64; omega)), H', ⟨by have := HJ2.out; have := HK2.out; have := HJ7.out; have := HJ10.out; first | omega | exact Nat.le_refl _⟩, ⟨by (with_reducible repeat (first | apply Kd.R_alloc | apply Kd.R_drewN | apply Kd.R_drew)); exact HO_5.out⟩, ⟨by repeat (first | (with_reducible first | exact HB.out | apply z7q | apply z3q | apply z4q) | exact HB.out)⟩⟩
             ·rw [if_neg c16] at H
              have c16b0 : (x6_2 == (l0.length : Int)) = false := beq_eq_false_iff_ne.mpr c16
              have c16b1 : (x6_2 != (l0.length : Int)) = true := bne_iff_ne.mpr c16
              by_cases c17 : 0 ≤ x7_2
              ·rw [if_pos c17] at H
               have c17b0 : decide (0 ≤ x7_2) = true := decide_eq_true c17
               clear c17
               replace H := Option.bind_eq_some_iff.mp H
               obtain ⟨t117, A180, H⟩ := H
               replace H : (spec_Differ.j4 kj10 l0 l1 x5_2 x6_2 x7_2 x8_10 x9_10 t117) = some r := H
               have A18 := Aside0.mk A180
               clear A180
               have H' := Aside0.mk H
               clear H
               have p115 : 0 ≤ (x7_2 : Int) := of_decide_eq_true (by first | (with_reducible assumption) | assumption)
               have q115 : x7_2 < (l1.length : Int) := of_decide_eq_true (by first | (with_reducible assumption) | assumption)
               obtain ⟨ad115, e115, hx115_0, hx115_1, hx115_2, hx115_3, hx115_4, hx115_5, hx115_6, hx115_7⟩ := at_T107 HR1.out x7_2 p115 q115
               cases e115
               replace hx115_0 := (hbc HB.out hx115_0).trans hx115_0
               replace hx115_1 := (hbc HB.out hx115_1).trans hx115_1
               replace hx115_2 := (hbc HB.out hx115_2).trans hx115_2
               replace hx115_3 := (hbc HB.out hx115_3).trans hx115_3
               replace hx115_4 := (hbc HB.out hx115_4).trans hx115_4
               replace hx115_5 := (hbc HB.out hx115_5).trans hx115_5
               replace hx115_6 := (hbc HB.out hx115_6).trans hx115_6
               replace hx115_7 := (hbc HB.out hx115_7).trans hx115_7
               replace p115 := eq_true p115
               replace q115 := eq_true q115
               have p116 : 0 ≤ (x7_2 : Int) := of_decide_eq_true (by first | (with_reducible assumption) | assumption)
               have q116 : x7_2 < (l1.length : Int) := of_decide_eq_true (by first | (with_reducible assumption) | assumption)
               obtain ⟨ad116, e116, hx116_0, hx116_1, hx116_2, hx116_3, hx116_4, hx116_5, hx116_6, hx116_7⟩ := at_T107 HR1.out x7_2 p116 q116
               obtain rfl : ad115 = ad116 := (by injection e116)
               replace hx116_0 := (hbc HB.out hx116_0).trans hx116_0
               replace hx116_1 := (hbc HB.out hx116_1).trans hx116_1
               replace hx116_2 := (hbc HB.out hx116_2).trans hx116_2
               replace hx116_3 := (hbc HB.out hx116_3).trans hx116_3
               replace hx116_4 := (hbc HB.out hx116_4).trans hx116_4
               replace hx116_5 := (hbc HB.out hx116_5).trans hx116_5
               replace hx116_6 := (hbc HB.out hx116_6).trans hx116_6
               replace hx116_7 := (hbc HB.out hx116_7).trans hx116_7
               replace p116 := eq_true p116
               replace q116 := eq_true q116
               go_wp2_with (first | (go_at_call 69; (with_reducible refine (spec_l8Ahead.calls ((rd_T107 l1 x7_2).f0) ((rd_T107 l1 x7_2).f1) x8_10 x9_10 t117 _ A18.out).mono ?_); rintro e w' ⟨rfl, ⟨nd, rfl⟩⟩; (try first | exact ⟨rfl, _, World.drewN_drewN _ _ _⟩ | exact ⟨rfl, _, Eq.trans (World.drewN_drewN _ _ _) (congrArg (World.drewN _) (Nat.add_assoc _ _ _))⟩)))
               repeat (go_quiet (first | (go_at_call 69; (with_reducible refine (spec_l8Ahead.calls ((rd_T107 l1 x7_2).f0) ((rd_T107 l1 x7_2).f1) x8_10 x9_10 t117 _ A18.out).mono ?_); rintro e w' ⟨rfl, ⟨nd, rfl⟩⟩; (try first | exact ⟨rfl, _, World.drewN_drewN _ _ _⟩ | exact ⟨rfl, _, Eq.trans (World.drewN_drewN _ _ _) (congrArg (World.drewN _) (Nat.add_assoc _ _ _))⟩))); try go_wp2_with (first | (go_at_call 69; (with_reducible refine (spec_l8Ahead.calls ((rd_T107 l1 x7_2).f0) ((rd_T107 l1 x7_2).f1) x8_10 x9_10 t117 _ A18.out).mono ?_); rintro e w' ⟨rfl, ⟨nd, rfl⟩⟩; (try first | exact ⟨rfl, _, World.drewN_drewN _ _ _⟩ | exact ⟨rfl, _, Eq.trans (World.drewN_drewN _ _ _) (congrArg (World.drewN _) (Nat.add_assoc _ _ _))⟩))))
               go_meet
               case rel => exact ⟨_, (t117), (by first | rfl | (simp; done) | (simp [*]; done) | (simp; unfold wrap64; omega)), H', ⟨by have := HJ2.out; have := HK2.out; have := HJ7.out; have := HJ10.out; first | omega | exact Nat.le_refl _⟩, ⟨by (with_reducible repeat (first | apply Kd.R_alloc | apply Kd.R_drewN | apply Kd.R_drew)); exact HO_5.out⟩, ⟨by repeat (first | (with_reducible first | exact HB.out | apply z7q | apply z3q | apply z4q) | exact HB.out)⟩⟩
              ·rw [if_neg c17] at H
               exact absurd H (by simp)
            ·rw [if_neg c15] at H
             have c15b0 : decide (x7_2 < (l1.length : Int)) = false := decide_eq_false c15
             clear c15
             (first | rw [c15b0] | (simp only [i64_w, i32_w]; rw [c15b0]) | skip)
             have H' := Aside0.mk H
             clear H
             go_wp2
             repeat (go_quiet (fail); try go_wp2)
             go_meet
             case rel => exact ⟨_, (false), (by first | rfl | (simp; done) | (simp [*]; done) | (simp; unfold wrap64; omega)), H', ⟨by have := HJ2.out; have := HK2.out; have := HJ7.out; have := HJ10.out; first | omega | exact Nat.le_refl _⟩, ⟨by (with_reducible repeat (first | apply Kd.R_alloc | apply Kd.R_drewN | apply Kd.R_drew)); exact HO_5.out⟩, ⟨by repeat (first | (with_reducible first | exact HB.out | apply z7q | apply z3q | apply z4q) | exact HB.out)⟩⟩
           case rest =>
            clear HC14
            try clear c1
            try clear p1
            try clear q1
            try clear hx1
            try clear p2
            try clear c3
            try clear c5
            try clear c7
            try clear c9
            try clear c9b0
            try clear c10
            try clear p11
            try clear q11
            try clear hx11
            try clear c12
            try clear c12b0
            try clear c13
            try clear c13b0
            try clear c15
            try clear c15b0
            try clear c16
            try clear c16b0
            try clear c16b1
            try clear c17
            try clear c17b0
            try clear hx113_0
            try clear hx113_1
            try clear hx113_2
            try clear hx113_3
            try clear hx113_4
            try clear hx113_5
            try clear hx113_6
            try clear hx113_7
            try clear hx114_0
            try clear hx114_1
            try clear hx114_2
            try clear hx114_3
            try clear hx114_4
            try clear hx114_5
            try clear hx114_6
            try clear hx114_7
            try clear hx115_0
            try clear hx115_1
            try clear hx115_2
            try clear hx115_3
            try clear hx115_4
            try clear hx115_5
            try clear hx115_6
            try clear hx115_7
            try clear hx116_0
            try clear hx116_1
            try clear hx116_2
            try clear hx116_3
            try clear hx116_4
            try clear hx116_5
            try clear hx116_6
            try clear hx116_7
            try clear p1
            try clear p11
            try clear p113
            try clear p114
            try clear p115
            try clear p116
            try clear p2
            try clear q1
            try clear q11
            try clear q113
            try clear q114
            try clear q115
            try clear q116
            obtain ⟨kq, x68_13, rfl, HA, HJ13, HO_5, HB⟩ := hcut
            cases kq with
            | zero => exact absurd HA.out (by simp [spec_Differ.j4])
            | succ kj13 =>
             have H := HA.out
             clear HA
             simp only [spec_Differ.j4] at H
             have HC19 := Aside0.mk H
             clear H
             go_upto_if 68 with (fail)
             repeat (go_quiet (fail); go_upto_if 68 with (fail))
             go_cut [8, 9] (fun v8 v9 wc => ∃ (kq : Nat) (x8_18 : Int) (x9_18 : Int), v8 = .int .i64 x8_18 ∧ v9 = .int .i64 x9_18 ∧ Aside0 (spec_Differ.j5 kq l0 l1 x5_2 x6_2 x7_2 x8_18 x9_18 = some r) ∧ Aside0 (kq ≤ kj13) ∧ Aside0 (Kd.R k107 107 wc w.heap.size (fun _ => True) u5 x5_2) ∧ Aside0 (Below w.heap.size w wc))
             case first =>
              have H := HC19.out
              clear HC19
              by_cases c20 : x68_13 = true
              ·subst c20
               have H1 : (if 0 ≤ x7_2 then (if x7_2 < (l1.length : Int) then (spec_Differ.j5 kj13 l0 l1 x5_2 x6_2 x7_2 ((rd_T107 l1 x7_2).f0) ((rd_T107 l1 x7_2).f1)) else (none)) else (none)) = some r := by rw [if_pos rfl] at H; exact H
               clear H
               have H := H1
               clear H1
               by_cases c21 : 0 ≤ x7_2
               ·rw [if_pos c21] at H
                have c21b0 : decide (0 ≤ x7_2) = true := decide_eq_true c21
                clear c21
                (first | rw [c21b0] | (simp only [i64_w, i32_w]; rw [c21b0]) | skip)
                by_cases c22 : x7_2 < (l1.length : Int)
                ·rw [if_pos c22] at H
                 have c22b0 : decide (x7_2 < (l1.length : Int)) = true := decide_eq_true c22
                 clear c22
                 have H' := Aside0.mk H
                 clear H
                 have p118 : 0 ≤ (x7_2 : Int) := of_decide_eq_true (by first | (with_reducible assumption) | assumption)
                 have q118 : x7_2 < (l1.length : Int) := of_decide_eq_true (by first | (with_reducible assumption) | assumption)
                 obtain ⟨ad118, e118, hx118_0, hx118_1, hx118_2, hx118_3, hx118_4, hx118_5, hx118_6, hx118_7⟩ := at_T107 HR1.out x7_2 p118 q118
                 cases e118
                 replace hx118_0 := (hbc HB.out hx118_0).trans hx118_0
                 replace hx118_1 := (hbc HB.out hx118_1).trans hx118_1
                 replace hx118_2 := (hbc HB.out hx118_2).trans hx118_2
                 replace hx118_3 := (hbc HB.out hx118_3).trans hx118_3
                 replace hx118_4 := (hbc HB.out hx118_4).trans hx118_4
                 replace hx118_5 := (hbc HB.out hx118_5).trans hx118_5
                 replace hx118_6 := (hbc HB.out hx118_6).trans hx118_6
                 replace hx118_7 := (hbc HB.out hx118_7).trans hx118_7
                 replace p118 := eq_true p118
                 replace q118 := eq_true q118
                 have p119 : 0 ≤ (x7_2 : Int) := of_decide_eq_true (by first | (with_reducible assumption) | assumption)
                 have q119 : x7_2 < (l1.length : Int) := of_decide_eq_true (by first | (with_reducible assumption) | assumption)
                 obtain ⟨ad119, e119, hx119_0, hx119_1, hx119_2, hx119_3, hx119_4, hx119_5, hx119_6, hx119_7⟩ := at_T107 HR1.out x7_2 p119 q119
                 obtain rfl : ad118 = ad119 := (by injection e119)
                 replace hx119_0 := (hbc HB.out hx119_0).trans hx119_0
                 replace hx119_1 := (hbc HB.out hx119_1).trans hx119_1
                 replace hx119_2 := (hbc HB.out hx119_2).trans hx119_2
                 replace hx119_3 := (hbc HB.out hx119_3).trans hx119_3
                 replace hx119_4 := (hbc HB.out hx119_4).trans hx119_4
                 replace hx119_5 := (hbc HB.out hx119_5).trans hx119_5
                 replace hx119_6 := (hbc HB.out hx119_6).trans hx119_6
                 replace hx119_7 := (hbc HB.out hx119_7).trans hx119_7
                 replace p119 := eq_true p119
                 replace q119 := eq_true q119
                 go_wp2
                 repeat (go_quiet (fail); try go_wp2)
                 go_meet
                 case rel => exact ⟨_, ((rd_T107 l1 x7_2).f0), ((rd_T107 l1 x7_2).f1), (by first | rfl | (simp; done) | (simp [*]; done) | (simp; unfold wrap64; omega)), (by first | rfl | (simp; done) | (simp [*]; done) | (simp; unfold wrap64; omega)), H', ⟨by have := HJ2.out; have := HK2.out; have := HJ7.out; have := HJ10.out; have := HJ13.out; first | omega | exact Nat.le_refl _⟩, ⟨by (with_reducible repeat (first | apply Kd.R_alloc | apply Kd.R_drewN | apply Kd.R_drew)); exact HO_5.out⟩, ⟨by repeat (first | (with_reducible first | exact HB.out | apply z7q | apply z3q | apply z4q) | exact HB.out)⟩⟩
                ·rw [if_neg c22] at H
                 exact absurd H (by simp)
               ·rw [if_neg c21] at H
                exact absurd H (by simp)
              ·replace c20 := Bool.eq_false_iff.mpr c20
               subst c20
               have H1 : (spec_Differ.j5 kj13 l0 l1 x5_2 x6_2 x7_2 x8_10 x9_10) = some r := by rw [if_neg (show ¬ (false = true) by decide)] at H; exact H
               clear H
               have H := H1
               clear H1
               have H' := Aside0.mk H
               clear H
               go_wp2
               repeat (go_quiet (fail); try go_wp2)
               go_meet
               case rel => exact ⟨_, (x8_10), (x9_10), (by first | rfl | (simp; done) | (simp [*]; done) | (simp; unfold wrap64; omega)), (by first | rfl | (simp; done) | (simp [*]; done) | (simp; unfold wrap64; omega)), H', ⟨by have := HJ2.out; have := HK2.out; have := HJ7.out; have := HJ10.out; have := HJ13.out; first | omega | exact Nat.le_refl _⟩, ⟨by (with_reducible repeat (first | apply Kd.R_alloc | apply Kd.R_drewN | apply Kd.R_drew)); exact HO_5.out⟩, ⟨by repeat (first | (with_reducible first | exact HB.out | apply z7q | apply z3q | apply z4q) | exact HB.out)⟩⟩
             case rest =>
              clear HC19
              try clear c1
              try clear p1
              try clear q1
              try clear hx1
              try clear c2
              try clear p2
              try clear c3
              try clear c5
              try clear c7
              try clear c9
              try clear c9b0
              try clear c10
              try clear p11
              try clear q11
              try clear hx11
              try clear c12
              try clear c12b0
              try clear c13
              try clear c13b0
              try clear c15
              try clear c15b0
              try clear c16
              try clear c16b0
              try clear c16b1
              try clear c17
              try clear c17b0
              try clear c20
              try clear c21
              try clear c21b0
              try clear c22
              try clear c22b0
              try clear hx113_0
              try clear hx113_1
              try clear hx113_2
              try clear hx113_3
              try clear hx113_4
              try clear hx113_5
              try clear hx113_6
              try clear hx113_7
              try clear hx114_0
              try clear hx114_1
              try clear hx114_2
              try clear hx114_3
              try clear hx114_4
              try clear hx114_5
              try clear hx114_6
              try clear hx114_7
              try clear hx115_0
              try clear hx115_1
              try clear hx115_2
              try clear hx115_3
              try clear hx115_4
              try clear hx115_5
              try clear hx115_6
              try clear hx115_7
              try clear hx116_0
              try clear hx116_1
              try clear hx116_2
              try clear hx116_3
              try clear hx116_4
              try clear hx116_5
              try clear hx116_6
              try clear hx116_7
              try clear hx118_0
              try clear hx118_1
              try clear hx118_2
              try clear hx118_3
              try clear hx118_4
              try clear hx118_5
              try clear hx118_6
              try clear hx118_7
              try clear hx119_0
              try clear hx119_1
              try clear hx119_2
              try clear hx119_3
              try clear hx119_4
              try clear hx119_5
              try clear hx119_6
              try clear hx119_7
              try clear p1
              try clear p11
              try clear p113
              try clear p114
              try clear p115
              try clear p116
              try clear p118
              try clear p119
              try clear p2
              try clear q1
              try clear q11
              try clear q113
              try clear q114
              try clear q115
              try clear q116
              try clear q118
              try clear q119
              obtain ⟨kq, x8_18, x9_18, rfl, rfl, HA, HJ18, HO_5, HB⟩ := hcut
              cases kq with
              | zero => exact absurd HA.out (by simp [spec_Differ.j5])
              | succ kj18 =>
               have H := HA.out
               clear HA
               simp only [spec_Differ.j5] at H
               have HC23 := Aside0.mk H
               clear H
               go_upto_region 17 with (first | ((with_reducible refine z17q (N := 10) rfl ?_); (try (refine gate_guard (by rfl) ?_; dsimp only)); refine z13q ?hg (N := 10) ?hd (cs := #[.int .i64 0, .int .i64 0, .int .i64 0, .bool false, .int .i64 0, .int .i64 0, .string (⟨#[]⟩ : ByteArray), .bool false]) (t := 107) ?hr ?_; (case hd => rfl); (case hg => rfl); (case hr => first | (go_simp; done) | (go_simp; rfl)); intro gb120 hg w24 hbox hb; have n0_ := Aside0.mk (Kd.R_below (Kd.R_elderB (ro HO_5.out) gb120 (Nat.le_of_eq hg.symm)) hb); have n1_ := Aside0.mk (z6q (ibh HB.out) hb); have n2_ := Aside0.mk (hbox); have n3_ := Aside0.mk ((by rw [hg]; exact (z5q (ibh HB.out)) : w.heap.size ≤ gb120)); have n4_ := Aside0.mk ((by rw [hg]; exact (z5q (ibh HB.out)) : w.heap.size ≤ gb120)); clear HO_5; clear HB; have HO_5 := n0_; have HB := n1_; have BK120 := n2_; have GW120 := n3_; have GE120 := n4_; clear n0_ n1_ n2_ n3_ n4_; clear hb hbox hg; have hcz25_0 : w24.cell? ⟨gb120, 0, none⟩ = some (.int .i64 0) := (z1q BK120.out 0).trans rfl; have hcz25_1 : w24.cell? ⟨gb120, 1, none⟩ = some (.int .i64 0) := (z1q BK120.out 1).trans rfl; have hcz25_2 : w24.cell? ⟨gb120, 2, none⟩ = some (.int .i64 0) := (z1q BK120.out 2).trans rfl; have hcz25_3 : w24.cell? ⟨gb120, 3, none⟩ = some (.bool false) := (z1q BK120.out 3).trans rfl; have hcz25_4 : w24.cell? ⟨gb120, 4, none⟩ = some (.int .i64 0) := (z1q BK120.out 4).trans rfl; have hcz25_5 : w24.cell? ⟨gb120, 5, none⟩ = some (.int .i64 0) := (z1q BK120.out 5).trans rfl; have hcz25_6 : w24.cell? ⟨gb120, 6, none⟩ = some (.string (⟨#[]⟩ : ByteArray)) := (z1q BK120.out 6).trans rfl; have hcz25_7 : w24.cell? ⟨gb120, 7, none⟩ = some (.bool false) := (z1q BK120.out 7).trans rfl; have hfz25_0 := z0q BK120.out 0; have hfz25_1 := z0q BK120.out 1; have hfz25_2 := z0q BK120.out 2; have hfz25_3 := z0q BK120.out 3; have hfz25_4 := z0q BK120.out 4; have hfz25_5 := z0q BK120.out 5; have hfz25_6 := z0q BK120.out 6; have hfz25_7 := z0q BK120.out 7) | ((with_reducible refine z17q (N := 11) rfl ?_); (try (refine gate_guard (by rfl) ?_; dsimp only)); refine z13q ?hg (N := 11) ?hd (cs := #[.int .i64 0, .int .i64 0, .int .i64 0, .bool false, .int .i64 0, .int .i64 0, .string (⟨#[]⟩ : ByteArray), .bool false]) (t := 107) ?hr ?_; (case hd => rfl); (case hg => rfl); (case hr => first | (go_simp; done) | (go_simp; rfl)); intro gb121 hg w26 hbox hb; have n0_ := Aside0.mk (Kd.R_below (Kd.R_elderB (by (with_reducible repeat (first | apply Kd.R_alloc | apply Kd.R_drewN | apply Kd.R_drew)); exact (Kd.R_mono (Kd.R_far (p := ⟨gb120, 7, none⟩) (Kd.R_far (p := ⟨gb120, 6, none⟩) (Kd.R_far (p := ⟨gb120, 5, none⟩) (Kd.R_far (p := ⟨gb120, 4, none⟩) (Kd.R_far (p := ⟨gb120, 3, none⟩) (Kd.R_far (p := ⟨gb120, 2, none⟩) (Kd.R_far (p := ⟨gb120, 1, none⟩) (Kd.R_far (p := ⟨gb120, 0, none⟩) (Kd.R_mono HO_5.out (fun k_ hk => (⟨hk, hk.2⟩ : _ ∧ k_ ≠ gb120))) (fun _ hk => hk.2) (.int .i64 x8_18)) (fun _ hk => hk.2) (.int .i64 x9_18)) (fun _ hk => hk.2) (.int .i64 0)) (fun _ hk => hk.2) (.bool false)) (fun _ hk => hk.2) (.int .i64 0)) (fun _ hk => hk.2) (.int .i64 0)) (fun _ hk => hk.2) (.string (⟨#[]⟩ : ByteArray))) (fun _ hk => hk.2) (.bool false)) (fun _ h_ => h_.1))) gb121 (Nat.le_of_eq hg.symm)) hb); have n1_ := Aside0.mk (z16q (g := gb120) (o := .cells #[.int .i64 x8_18, .int .i64 x9_18, .int .i64 0, .bool false, .int .i64 0, .int .i64 0, .string (⟨#[]⟩ : ByteArray), .bool false] 107 (0, 0)) (by refine cz ?_; refine z10q (cs := #[.int .i64 x8_18, .int .i64 x9_18, .int .i64 0, .bool false, .int .i64 0, .int .i64 0, .string (⟨#[]⟩ : ByteArray), .bool false]) ?_ 7 _ rfl; refine cz ?_; refine z10q (cs := #[.int .i64 x8_18, .int .i64 x9_18, .int .i64 0, .bool false, .int .i64 0, .int .i64 0, .string (⟨#[]⟩ : ByteArray), .bool false]) ?_ 6 _ rfl; refine cz ?_; refine z10q (cs := #[.int .i64 x8_18, .int .i64 x9_18, .int .i64 0, .bool false, .int .i64 0, .int .i64 0, .string (⟨#[]⟩ : ByteArray), .bool false]) ?_ 5 _ rfl; refine cz ?_; refine z10q (cs := #[.int .i64 x8_18, .int .i64 x9_18, .int .i64 0, .bool false, .int .i64 0, .int .i64 0, .string (⟨#[]⟩ : ByteArray), .bool false]) ?_ 4 _ rfl; refine cz ?_; refine z10q (cs := #[.int .i64 x8_18, .int .i64 x9_18, .int .i64 0, .bool false, .int .i64 0, .int .i64 0, .string (⟨#[]⟩ : ByteArray), .bool false]) ?_ 3 _ rfl; refine cz ?_; refine z10q (cs := #[.int .i64 x8_18, .int .i64 x9_18, .int .i64 0, .bool false, .int .i64 0, .int .i64 0, .string (⟨#[]⟩ : ByteArray), .bool false]) ?_ 2 _ rfl; refine cz ?_; refine z10q (cs := #[.int .i64 x8_18, .int .i64 0, .int .i64 0, .bool false, .int .i64 0, .int .i64 0, .string (⟨#[]⟩ : ByteArray), .bool false]) ?_ 1 _ rfl; refine cz ?_; refine z10q (cs := #[.int .i64 0, .int .i64 0, .int .i64 0, .bool false, .int .i64 0, .int .i64 0, .string (⟨#[]⟩ : ByteArray), .bool false]) ?_ 0 _ rfl; exact cy BK120.out) hb); have n2_ := Aside0.mk (z6q (ibh HB.out) hb); have n3_ := Aside0.mk (hbox); have n4_ := Aside0.mk ((by rw [hg]; exact (z5q (ibh HB.out)) : w.heap.size ≤ gb121)); have n5_ := Aside0.mk ((by rw [hg]; exact (z5q (ibh HB.out)) : w.heap.size ≤ gb121)); have n6_ := Aside0.mk ((by rw [hg]; exact Nat.ne_of_lt (z20q (g := gb120) (o := .cells #[.int .i64 x8_18, .int .i64 x9_18, .int .i64 0, .bool false, .int .i64 0, .int .i64 0, .string (⟨#[]⟩ : ByteArray), .bool false] 107 (0, 0)) (by refine cz ?_; refine z10q (cs := #[.int .i64 x8_18, .int .i64 x9_18, .int .i64 0, .bool false, .int .i64 0, .int .i64 0, .string (⟨#[]⟩ : ByteArray), .bool false]) ?_ 7 _ rfl; refine cz ?_; refine z10q (cs := #[.int .i64 x8_18, .int .i64 x9_18, .int .i64 0, .bool false, .int .i64 0, .int .i64 0, .string (⟨#[]⟩ : ByteArray), .bool false]) ?_ 6 _ rfl; refine cz ?_; refine z10q (cs := #[.int .i64 x8_18, .int .i64 x9_18, .int .i64 0, .bool false, .int .i64 0, .int .i64 0, .string (⟨#[]⟩ : ByteArray), .bool false]) ?_ 5 _ rfl; refine cz ?_; refine z10q (cs := #[.int .i64 x8_18, .int .i64 x9_18, .int .i64 0, .bool false, .int .i64 0, .int .i64 0, .string (⟨#[]⟩ : ByteArray), .bool false]) ?_ 4 _ rfl; refine cz ?_; refine z10q (cs := #[.int .i64 x8_18, .int .i64 x9_18, .int .i64 0, .bool false, .int .i64 0, .int .i64 0, .string (⟨#[]⟩ : ByteArray), .bool false]) ?_ 3 _ rfl; refine cz ?_; refine z10q (cs := #[.int .i64 x8_18, .int .i64 x9_18, .int .i64 0, .bool false, .int .i64 0, .int .i64 0, .string (⟨#[]⟩ : ByteArray), .bool false]) ?_ 2 _ rfl; refine cz ?_; refine z10q (cs := #[.int .i64 x8_18, .int .i64 0, .int .i64 0, .bool false, .int .i64 0, .int .i64 0, .string (⟨#[]⟩ : ByteArray), .bool false]) ?_ 1 _ rfl; refine cz ?_; refine z10q (cs := #[.int .i64 0, .int .i64 0, .int .i64 0, .bool false, .int .i64 0, .int .i64 0, .string (⟨#[]⟩ : ByteArray), .bool false]) ?_ 0 _ rfl; exact cy BK120.out)) : gb120 ≠ gb121)); have n7_ := Aside0.mk ((by rw [hg]; exact Nat.ne_of_gt (z20q (g := gb120) (o := .cells #[.int .i64 x8_18, .int .i64 x9_18, .int .i64 0, .bool false, .int .i64 0, .int .i64 0, .string (⟨#[]⟩ : ByteArray), .bool false] 107 (0, 0)) (by refine cz ?_; refine z10q (cs := #[.int .i64 x8_18, .int .i64 x9_18, .int .i64 0, .bool false, .int .i64 0, .int .i64 0, .string (⟨#[]⟩ : ByteArray), .bool false]) ?_ 7 _ rfl; refine cz ?_; refine z10q (cs := #[.int .i64 x8_18, .int .i64 x9_18, .int .i64 0, .bool false, .int .i64 0, .int .i64 0, .string (⟨#[]⟩ : ByteArray), .bool false]) ?_ 6 _ rfl; refine cz ?_; refine z10q (cs := #[.int .i64 x8_18, .int .i64 x9_18, .int .i64 0, .bool false, .int .i64 0, .int .i64 0, .string (⟨#[]⟩ : ByteArray), .bool false]) ?_ 5 _ rfl; refine cz ?_; refine z10q (cs := #[.int .i64 x8_18, .int .i64 x9_18, .int .i64 0, .bool false, .int .i64 0, .int .i64 0, .string (⟨#[]⟩ : ByteArray), .bool false]) ?_ 4 _ rfl; refine cz ?_; refine z10q (cs := #[.int .i64 x8_18, .int .i64 x9_18, .int .i64 0, .bool false, .int .i64 0, .int .i64 0, .string (⟨#[]⟩ : ByteArray), .bool false]) ?_ 3 _ rfl; refine cz ?_; refine z10q (cs := #[.int .i64 x8_18, .int .i64 x9_18, .int .i64 0, .bool false, .int .i64 0, .int .i64 0, .string (⟨#[]⟩ : ByteArray), .bool false]) ?_ 2 _ rfl; refine cz ?_; refine z10q (cs := #[.int .i64 x8_18, .int .i64 0, .int .i64 0, .bool false, .int .i64 0, .int .i64 0, .string (⟨#[]⟩ : ByteArray), .bool false]) ?_ 1 _ rfl; refine cz ?_; refine z10q (cs := #[.int .i64 0, .int .i64 0, .int .i64 0, .bool false, .int .i64 0, .int .i64 0, .string (⟨#[]⟩ : ByteArray), .bool false]) ?_ 0 _ rfl; exact cy BK120.out)) : gb121 ≠ gb120)); clear HO_5; clear BK120; clear HB; have HO_5 := n0_; have BK120 := n1_; have HB := n2_; have BK121 := n3_; have GW121 := n4_; have GE121 := n5_; have NB120_121 := n6_; have NB121_120 := n7_; clear n0_ n1_ n2_ n3_ n4_ n5_ n6_ n7_; clear hb hbox hg; have hnb27 := NB121_120.out; have hnc27 := NB120_121.out; have hcz28_0 : w26.cell? ⟨gb121, 0, none⟩ = some (.int .i64 0) := (z1q BK121.out 0).trans rfl; have hcz28_1 : w26.cell? ⟨gb121, 1, none⟩ = some (.int .i64 0) := (z1q BK121.out 1).trans rfl; have hcz28_2 : w26.cell? ⟨gb121, 2, none⟩ = some (.int .i64 0) := (z1q BK121.out 2).trans rfl; have hcz28_3 : w26.cell? ⟨gb121, 3, none⟩ = some (.bool false) := (z1q BK121.out 3).trans rfl; have hcz28_4 : w26.cell? ⟨gb121, 4, none⟩ = some (.int .i64 0) := (z1q BK121.out 4).trans rfl; have hcz28_5 : w26.cell? ⟨gb121, 5, none⟩ = some (.int .i64 0) := (z1q BK121.out 5).trans rfl; have hcz28_6 : w26.cell? ⟨gb121, 6, none⟩ = some (.string (⟨#[]⟩ : ByteArray)) := (z1q BK121.out 6).trans rfl; have hcz28_7 : w26.cell? ⟨gb121, 7, none⟩ = some (.bool false) := (z1q BK121.out 7).trans rfl; have hfz28_0 := z0q BK121.out 0; have hfz28_1 := z0q BK121.out 1; have hfz28_2 := z0q BK121.out 2; have hfz28_3 := z0q BK121.out 3; have hfz28_4 := z0q BK121.out 4; have hfz28_5 := z0q BK121.out 5; have hfz28_6 := z0q BK121.out 6; have hfz28_7 := z0q BK121.out 7))
               repeat (go_quiet (first | ((with_reducible refine z17q (N := 10) rfl ?_); (try (refine gate_guard (by rfl) ?_; dsimp only)); refine z13q ?hg (N := 10) ?hd (cs := #[.int .i64 0, .int .i64 0, .int .i64 0, .bool false, .int .i64 0, .int .i64 0, .string (⟨#[]⟩ : ByteArray), .bool false]) (t := 107) ?hr ?_; (case hd => rfl); (case hg => rfl); (case hr => first | (go_simp; done) | (go_simp; rfl)); intro gb120 hg w24 hbox hb; have n0_ := Aside0.mk (Kd.R_below (Kd.R_elderB (ro HO_5.out) gb120 (Nat.le_of_eq hg.symm)) hb); have n1_ := Aside0.mk (z6q (ibh HB.out) hb); have n2_ := Aside0.mk (hbox); have n3_ := Aside0.mk ((by rw [hg]; exact (z5q (ibh HB.out)) : w.heap.size ≤ gb120)); have n4_ := Aside0.mk ((by rw [hg]; exact (z5q (ibh HB.out)) : w.heap.size ≤ gb120)); clear HO_5; clear HB; have HO_5 := n0_; have HB := n1_; have BK120 := n2_; have GW120 := n3_; have GE120 := n4_; clear n0_ n1_ n2_ n3_ n4_; clear hb hbox hg; have hcz25_0 : w24.cell? ⟨gb120, 0, none⟩ = some (.int .i64 0) := (z1q BK120.out 0).trans rfl; have hcz25_1 : w24.cell? ⟨gb120, 1, none⟩ = some (.int .i64 0) := (z1q BK120.out 1).trans rfl; have hcz25_2 : w24.cell? ⟨gb120, 2, none⟩ = some (.int .i64 0) := (z1q BK120.out 2).trans rfl; have hcz25_3 : w24.cell? ⟨gb120, 3, none⟩ = some (.bool false) := (z1q BK120.out 3).trans rfl; have hcz25_4 : w24.cell? ⟨gb120, 4, none⟩ = some (.int .i64 0) := (z1q BK120.out 4).trans rfl; have hcz25_5 : w24.cell? ⟨gb120, 5, none⟩ = some (.int .i64 0) := (z1q BK120.out 5).trans rfl; have hcz25_6 : w24.cell? ⟨gb120, 6, none⟩ = some (.string (⟨#[]⟩ : ByteArray)) := (z1q BK120.out 6).trans rfl; have hcz25_7 : w24.cell? ⟨gb120, 7, none⟩ = some (.bool false) := (z1q BK120.out 7).trans rfl; have hfz25_0 := z0q BK120.out 0; have hfz25_1 := z0q BK120.out 1; have hfz25_2 := z0q BK120.out 2; have hfz25_3 := z0q BK120.out 3; have hfz25_4 := z0q BK120.out 4; have hfz25_5 := z0q BK120.out 5; have hfz25_6 := z0q BK120.out 6; have hfz25_7 := z0q BK120.out 7) | ((with_reducible refine z17q (N := 11) rfl ?_); (try (refine gate_guard (by rfl) ?_; dsimp only)); refine z13q ?hg (N := 11) ?hd (cs := #[.int .i64 0, .int .i64 0, .int .i64 0, .bool false, .int .i64 0, .int .i64 0, .string (⟨#[]⟩ : ByteArray), .bool false]) (t := 107) ?hr ?_; (case hd => rfl); (case hg => rfl); (case hr => first | (go_simp; done) | (go_simp; rfl)); intro gb121 hg w26 hbox hb; have n0_ := Aside0.mk (Kd.R_below (Kd.R_elderB (by (with_reducible repeat (first | apply Kd.R_alloc | apply Kd.R_drewN | apply Kd.R_drew)); exact (Kd.R_mono (Kd.R_far (p := ⟨gb120, 7, none⟩) (Kd.R_far (p := ⟨gb120, 6, none⟩) (Kd.R_far (p := ⟨gb120, 5, none⟩) (Kd.R_far (p := ⟨gb120, 4, none⟩) (Kd.R_far (p := ⟨gb120, 3, none⟩) (Kd.R_far (p := ⟨gb120, 2, none⟩) (Kd.R_far (p := ⟨gb120, 1, none⟩) (Kd.R_far (p := ⟨gb120, 0, none⟩) (Kd.R_mono HO_5.out (fun k_ hk => (⟨hk, hk.2⟩ : _ ∧ k_ ≠ gb120))) (fun _ hk => hk.2) (.int .i64 x8_18)) (fun _ hk => hk.2) (.int .i64 x9_18)) (fun _ hk => hk.2) (.int .i64 0)) (fun _ hk => hk.2) (.bool false)) (fun _ hk => hk.2) (.int .i64 0)) (fun _ hk => hk.2) (.int .i64 0)) (fun _ hk => hk.2) (.string (⟨#[]⟩ : ByteArray))) (fun _ hk => hk.2) (.bool false)) (fun _ h_ => h_.1))) gb121 (Nat.le_of_eq hg.symm)) hb); have n1_ := Aside0.mk (z16q (g := gb120) (o := .cells #[.int .i64 x8_18, .int .i64 x9_18, .int .i64 0, .bool false, .int .i64 0, .int .i64 0, .string (⟨#[]⟩ : ByteArray), .bool false] 107 (0, 0)) (by refine cz ?_; refine z10q (cs := #[.int .i64 x8_18, .int .i64 x9_18, .int .i64 0, .bool false, .int .i64 0, .int .i64 0, .string (⟨#[]⟩ : ByteArray), .bool false]) ?_ 7 _ rfl; refine cz ?_; refine z10q (cs := #[.int .i64 x8_18, .int .i64 x9_18, .int .i64 0, .bool false, .int .i64 0, .int .i64 0, .string (⟨#[]⟩ : ByteArray), .bool false]) ?_ 6 _ rfl; refine cz ?_; refine z10q (cs := #[.int .i64 x8_18, .int .i64 x9_18, .int .i64 0, .bool false, .int .i64 0, .int .i64 0, .string (⟨#[]⟩ : ByteArray), .bool false]) ?_ 5 _ rfl; refine cz ?_; refine z10q (cs := #[.int .i64 x8_18, .int .i64 x9_18, .int .i64 0, .bool false, .int .i64 0, .int .i64 0, .string (⟨#[]⟩ : ByteArray), .bool false]) ?_ 4 _ rfl; refine cz ?_; refine z10q (cs := #[.int .i64 x8_18, .int .i64 x9_18, .int .i64 0, .bool false, .int .i64 0, .int .i64 0, .string (⟨#[]⟩ : ByteArray), .bool false]) ?_ 3 _ rfl; refine cz ?_; refine z10q (cs := #[.int .i64 x8_18, .int .i64 x9_18, .int .i64 0, .bool false, .int .i64 0, .int .i64 0, .string (⟨#[]⟩ : ByteArray), .bool false]) ?_ 2 _ rfl; refine cz ?_; refine z10q (cs := #[.int .i64 x8_18, .int .i64 0, .int .i64 0, .bool false, .int .i64 0, .int .i64 0, .string (⟨#[]⟩ : ByteArray), .bool false]) ?_ 1 _ rfl; refine cz ?_; refine z10q (cs := #[.int .i64 0, .int .i64 0, .int .i64 0, .bool false, .int .i64 0, .int .i64 0, .string (⟨#[]⟩ : ByteArray), .bool false]) ?_ 0 _ rfl; exact cy BK120.out) hb); have n2_ := Aside0.mk (z6q (ibh HB.out) hb); have n3_ := Aside0.mk (hbox); have n4_ := Aside0.mk ((by rw [hg]; exact (z5q (ibh HB.out)) : w.heap.size ≤ gb121)); have n5_ := Aside0.mk ((by rw [hg]; exact (z5q (ibh HB.out)) : w.heap.size ≤ gb121)); have n6_ := Aside0.mk ((by rw [hg]; exact Nat.ne_of_lt (z20q (g := gb120) (o := .cells #[.int .i64 x8_18, .int .i64 x9_18, .int .i64 0, .bool false, .int .i64 0, .int .i64 0, .string (⟨#[]⟩ : ByteArray), .bool false] 107 (0, 0)) (by refine cz ?_; refine z10q (cs := #[.int .i64 x8_18, .int .i64 x9_18, .int .i64 0, .bool false, .int .i64 0, .int .i64 0, .string (⟨#[]⟩ : ByteArray), .bool false]) ?_ 7 _ rfl; refine cz ?_; refine z10q (cs := #[.int .i64 x8_18, .int .i64 x9_18, .int .i64 0, .bool false, .int .i64 0, .int .i64 0, .string (⟨#[]⟩ : ByteArray), .bool false]) ?_ 6 _ rfl; refine cz ?_; refine z10q (cs := #[.int .i64 x8_18, .int .i64 x9_18, .int .i64 0, .bool false, .int .i64 0, .int .i64 0, .string (⟨#[]⟩ : ByteArray), .bool false]) ?_ 5 _ rfl; refine cz ?_; refine z10q (cs := #[.int .i64 x8_18, .int .i64 x9_18, .int .i64 0, .bool false, .int .i64 0, .int .i64 0, .string (⟨#[]⟩ : ByteArray), .bool false]) ?_ 4 _ rfl; refine cz ?_; refine z10q (cs := #[.int .i64 x8_18, .int .i64 x9_18, .int .i64 0, .bool false, .int .i64 0, .int .i64 0, .string (⟨#[]⟩ : ByteArray), .bool false]) ?_ 3 _ rfl; refine cz ?_; refine z10q (cs := #[.int .i64 x8_18, .int .i64 x9_18, .int .i64 0, .bool false, .int .i64 0, .int .i64 0, .string (⟨#[]⟩ : ByteArray), .bool false]) ?_ 2 _ rfl; refine cz ?_; refine z10q (cs := #[.int .i64 x8_18, .int .i64 0, .int .i64 0, .bool false, .int .i64 0, .int .i64 0, .string (⟨#[]⟩ : ByteArray), .bool false]) ?_ 1 _ rfl; refine cz ?_; refine z10q (cs := #[.int .i64 0, .int .i64 0, .int .i64 0, .bool false, .int .i64 0, .int .i64 0, .string (⟨#[]⟩ : ByteArray), .bool false]) ?_ 0 _ rfl; exact cy BK120.out)) : gb120 ≠ gb121)); have n7_ := Aside0.mk ((by rw [hg]; exact Nat.ne_of_gt (z20q (g := gb120) (o := .cells #[.int .i64 x8_18, .int .i64 x9_18, .int .i64 0, .bool false, .int .i64 0, .int .i64 0, .string (⟨#[]⟩ : ByteArray), .bool false] 107 (0, 0)) (by refine cz ?_; refine z10q (cs := #[.int .i64 x8_18, .int .i64 x9_18, .int .i64 0, .bool false, .int .i64 0, .int .i64 0, .string (⟨#[]⟩ : ByteArray), .bool false]) ?_ 7 _ rfl; refine cz ?_; refine z10q (cs := #[.int .i64 x8_18, .int .i64 x9_18, .int .i64 0, .bool false, .int .i64 0, .int .i64 0, .string (⟨#[]⟩ : ByteArray), .bool false]) ?_ 6 _ rfl; refine cz ?_; refine z10q (cs := #[.int .i64 x8_18, .int .i64 x9_18, .int .i64 0, .bool false, .int .i64 0, .int .i64 0, .string (⟨#[]⟩ : ByteArray), .bool false]) ?_ 5 _ rfl; refine cz ?_; refine z10q (cs := #[.int .i64 x8_18, .int .i64 x9_18, .int .i64 0, .bool false, .int .i64 0, .int .i64 0, .string (⟨#[]⟩ : ByteArray), .bool false]) ?_ 4 _ rfl; refine cz ?_; refine z10q (cs := #[.int .i64 x8_18, .int .i64 x9_18, .int .i64 0, .bool false, .int .i64 0, .int .i64 0, .string (⟨#[]⟩ : ByteArray), .bool false]) ?_ 3 _ rfl; refine cz ?_; refine z10q (cs := #[.int .i64 x8_18, .int .i64 x9_18, .int .i64 0, .bool false, .int .i64 0, .int .i64 0, .string (⟨#[]⟩ : ByteArray), .bool false]) ?_ 2 _ rfl; refine cz ?_; refine z10q (cs := #[.int .i64 x8_18, .int .i64 0, .int .i64 0, .bool false, .int .i64 0, .int .i64 0, .string (⟨#[]⟩ : ByteArray), .bool false]) ?_ 1 _ rfl; refine cz ?_; refine z10q (cs := #[.int .i64 0, .int .i64 0, .int .i64 0, .bool false, .int .i64 0, .int .i64 0, .string (⟨#[]⟩ : ByteArray), .bool false]) ?_ 0 _ rfl; exact cy BK120.out)) : gb121 ≠ gb120)); clear HO_5; clear BK120; clear HB; have HO_5 := n0_; have BK120 := n1_; have HB := n2_; have BK121 := n3_; have GW121 := n4_; have GE121 := n5_; have NB120_121 := n6_; have NB121_120 := n7_; clear n0_ n1_ n2_ n3_ n4_ n5_ n6_ n7_; clear hb hbox hg; have hnb27 := NB121_120.out; have hnc27 := NB120_121.out; have hcz28_0 : w26.cell? ⟨gb121, 0, none⟩ = some (.int .i64 0) := (z1q BK121.out 0).trans rfl; have hcz28_1 : w26.cell? ⟨gb121, 1, none⟩ = some (.int .i64 0) := (z1q BK121.out 1).trans rfl; have hcz28_2 : w26.cell? ⟨gb121, 2, none⟩ = some (.int .i64 0) := (z1q BK121.out 2).trans rfl; have hcz28_3 : w26.cell? ⟨gb121, 3, none⟩ = some (.bool false) := (z1q BK121.out 3).trans rfl; have hcz28_4 : w26.cell? ⟨gb121, 4, none⟩ = some (.int .i64 0) := (z1q BK121.out 4).trans rfl; have hcz28_5 : w26.cell? ⟨gb121, 5, none⟩ = some (.int .i64 0) := (z1q BK121.out 5).trans rfl; have hcz28_6 : w26.cell? ⟨gb121, 6, none⟩ = some (.string (⟨#[]⟩ : ByteArray)) := (z1q BK121.out 6).trans rfl; have hcz28_7 : w26.cell? ⟨gb121, 7, none⟩ = some (.bool false) := (z1q BK121.out 7).trans rfl; have hfz28_0 := z0q BK121.out 0; have hfz28_1 := z0q BK121.out 1; have hfz28_2 := z0q BK121.out 2; have hfz28_3 := z0q BK121.out 3; have hfz28_4 := z0q BK121.out 4; have hfz28_5 := z0q BK121.out 5; have hfz28_6 := z0q BK121.out 6; have hfz28_7 := z0q BK121.out 7)); go_upto_region 17 with (first | ((with_reducible refine z17q (N := 10) rfl ?_); (try (refine gate_guard (by rfl) ?_; dsimp only)); refine z13q ?hg (N := 10) ?hd (cs := #[.int .i64 0, .int .i64 0, .int .i64 0, .bool false, .int .i64 0, .int .i64 0, .string (⟨#[]⟩ : ByteArray), .bool false]) (t := 107) ?hr ?_; (case hd => rfl); (case hg => rfl); (case hr => first | (go_simp; done) | (go_simp; rfl)); intro gb120 hg w24 hbox hb; have n0_ := Aside0.mk (Kd.R_below (Kd.R_elderB (ro HO_5.out) gb120 (Nat.le_of_eq hg.symm)) hb); have n1_ := Aside0.mk (z6q (ibh HB.out) hb); have n2_ := Aside0.mk (hbox); have n3_ := Aside0.mk ((by rw [hg]; exact (z5q (ibh HB.out)) : w.heap.size ≤ gb120)); have n4_ := Aside0.mk ((by rw [hg]; exact (z5q (ibh HB.out)) : w.heap.size ≤ gb120)); clear HO_5; clear HB; have HO_5 := n0_; have HB := n1_; have BK120 := n2_; have GW120 := n3_; have GE120 := n4_; clear n0_ n1_ n2_ n3_ n4_; clear hb hbox hg; have hcz25_0 : w24.cell? ⟨gb120, 0, none⟩ = some (.int .i64 0) := (z1q BK120.out 0).trans rfl; have hcz25_1 : w24.cell? ⟨gb120, 1, none⟩ = some (.int .i64 0) := (z1q BK120.out 1).trans rfl; have hcz25_2 : w24.cell? ⟨gb120, 2, none⟩ = some (.int .i64 0) := (z1q BK120.out 2).trans rfl; have hcz25_3 : w24.cell? ⟨gb120, 3, none⟩ = some (.bool false) := (z1q BK120.out 3).trans rfl; have hcz25_4 : w24.cell? ⟨gb120, 4, none⟩ = some (.int .i64 0) := (z1q BK120.out 4).trans rfl; have hcz25_5 : w24.cell? ⟨gb120, 5, none⟩ = some (.int .i64 0) := (z1q BK120.out 5).trans rfl; have hcz25_6 : w24.cell? ⟨gb120, 6, none⟩ = some (.string (⟨#[]⟩ : ByteArray)) := (z1q BK120.out 6).trans rfl; have hcz25_7 : w24.cell? ⟨gb120, 7, none⟩ = some (.bool false) := (z1q BK120.out 7).trans rfl; have hfz25_0 := z0q BK120.out 0; have hfz25_1 := z0q BK120.out 1; have hfz25_2 := z0q BK120.out 2; have hfz25_3 := z0q BK120.out 3; have hfz25_4 := z0q BK120.out 4; have hfz25_5 := z0q BK120.out 5; have hfz25_6 := z0q BK120.out 6; have hfz25_7 := z0q BK120.out 7) | ((with_reducible refine z17q (N := 11) rfl ?_); (try (refine gate_guard (by rfl) ?_; dsimp only)); refine z13q ?hg (N := 11) ?hd (cs := #[.int .i64 0, .int .i64 0, .int .i64 0, .bool false, .int .i64 0, .int .i64 0, .string (⟨#[]⟩ : ByteArray), .bool false]) (t := 107) ?hr ?_; (case hd => rfl); (case hg => rfl); (case hr => first | (go_simp; done) | (go_simp; rfl)); intro gb121 hg w26 hbox hb; have n0_ := Aside0.mk (Kd.R_below (Kd.R_elderB (by (with_reducible repeat (first | apply Kd.R_alloc | apply Kd.R_drewN | apply Kd.R_drew)); exact (Kd.R_mono (Kd.R_far (p := ⟨gb120, 7, none⟩) (Kd.R_far (p := ⟨gb120, 6, none⟩) (Kd.R_far (p := ⟨gb120, 5, none⟩) (Kd.R_far (p := ⟨gb120, 4, none⟩) (Kd.R_far (p := ⟨gb120, 3, none⟩) (Kd.R_far (p := ⟨gb120, 2, none⟩) (Kd.R_far (p := ⟨gb120, 1, none⟩) (Kd.R_far (p := ⟨gb120, 0, none⟩) (Kd.R_mono HO_5.out (fun k_ hk => (⟨hk, hk.2⟩ : _ ∧ k_ ≠ gb120))) (fun _ hk => hk.2) (.int .i64 x8_18)) (fun _ hk => hk.2) (.int .i64 x9_18)) (fun _ hk => hk.2) (.int .i64 0)) (fun _ hk => hk.2) (.bool false)) (fun _ hk => hk.2) (.int .i64 0)) (fun _ hk => hk.2) (.int .i64 0)) (fun _ hk => hk.2) (.string (⟨#[]⟩ : ByteArray))) (fun _ hk => hk.2) (.bool false)) (fun _ h_ => h_.1))) gb121 (Nat.le_of_eq hg.symm)) hb); have n1_ := Aside0.mk (z16q (g := gb120) (o := .cells #[.int .i64 x8_18, .int .i64 x9_18, .int .i64 0, .bool false, .int .i64 0, .int .i64 0, .string (⟨#[]⟩ : ByteArray), .bool false] 107 (0, 0)) (by refine cz ?_; refine z10q (cs := #[.int .i64 x8_18, .int .i64 x9_18, .int .i64 0, .bool false, .int .i64 0, .int .i64 0, .string (⟨#[]⟩ : ByteArray), .bool false]) ?_ 7 _ rfl; refine cz ?_; refine z10q (cs := #[.int .i64 x8_18, .int .i64 x9_18, .int .i64 0, .bool false, .int .i64 0, .int .i64 0, .string (⟨#[]⟩ : ByteArray), .bool false]) ?_ 6 _ rfl; refine cz ?_; refine z10q (cs := #[.int .i64 x8_18, .int .i64 x9_18, .int .i64 0, .bool false, .int .i64 0, .int .i64 0, .string (⟨#[]⟩ : ByteArray), .bool false]) ?_ 5 _ rfl; refine cz ?_; refine z10q (cs := #[.int .i64 x8_18, .int .i64 x9_18, .int .i64 0, .bool false, .int .i64 0, .int .i64 0, .string (⟨#[]⟩ : ByteArray), .bool false]) ?_ 4 _ rfl; refine cz ?_; refine z10q (cs := #[.int .i64 x8_18, .int .i64 x9_18, .int .i64 0, .bool false, .int .i64 0, .int .i64 0, .string (⟨#[]⟩ : ByteArray), .bool false]) ?_ 3 _ rfl; refine cz ?_; refine z10q (cs := #[.int .i64 x8_18, .int .i64 x9_18, .int .i64 0, .bool false, .int .i64 0, .int .i64 0, .string (⟨#[]⟩ : ByteArray), .bool false]) ?_ 2 _ rfl; refine cz ?_; refine z10q (cs := #[.int .i64 x8_18, .int .i64 0, .int .i64 0, .bool false, .int .i64 0, .int .i64 0, .string (⟨#[]⟩ : ByteArray), .bool false]) ?_ 1 _ rfl; refine cz ?_; refine z10q (cs := #[.int .i64 0, .int .i64 0, .int .i64 0, .bool false, .int .i64 0, .int .i64 0, .string (⟨#[]⟩ : ByteArray), .bool false]) ?_ 0 _ rfl; exact cy BK120.out) hb); have n2_ := Aside0.mk (z6q (ibh HB.out) hb); have n3_ := Aside0.mk (hbox); have n4_ := Aside0.mk ((by rw [hg]; exact (z5q (ibh HB.out)) : w.heap.size ≤ gb121)); have n5_ := Aside0.mk ((by rw [hg]; exact (z5q (ibh HB.out)) : w.heap.size ≤ gb121)); have n6_ := Aside0.mk ((by rw [hg]; exact Nat.ne_of_lt (z20q (g := gb120) (o := .cells #[.int .i64 x8_18, .int .i64 x9_18, .int .i64 0, .bool false, .int .i64 0, .int .i64 0, .string (⟨#[]⟩ : ByteArray), .bool false] 107 (0, 0)) (by refine cz ?_; refine z10q (cs := #[.int .i64 x8_18, .int .i64 x9_18, .int .i64 0, .bool false, .int .i64 0, .int .i64 0, .string (⟨#[]⟩ : ByteArray), .bool false]) ?_ 7 _ rfl; refine cz ?_; refine z10q (cs := #[.int .i64 x8_18, .int .i64 x9_18, .int .i64 0, .bool false, .int .i64 0, .int .i64 0, .string (⟨#[]⟩ : ByteArray), .bool false]) ?_ 6 _ rfl; refine cz ?_; refine z10q (cs := #[.int .i64 x8_18, .int .i64 x9_18, .int .i64 0, .bool false, .int .i64 0, .int .i64 0, .string (⟨#[]⟩ : ByteArray), .bool false]) ?_ 5 _ rfl; refine cz ?_; refine z10q (cs := #[.int .i64 x8_18, .int .i64 x9_18, .int .i64 0, .bool false, .int .i64 0, .int .i64 0, .string (⟨#[]⟩ : ByteArray), .bool false]) ?_ 4 _ rfl; refine cz ?_; refine z10q (cs := #[.int .i64 x8_18, .int .i64 x9_18, .int .i64 0, .bool false, .int .i64 0, .int .i64 0, .string (⟨#[]⟩ : ByteArray), .bool false]) ?_ 3 _ rfl; refine cz ?_; refine z10q (cs := #[.int .i64 x8_18, .int .i64 x9_18, .int .i64 0, .bool false, .int .i64 0, .int .i64 0, .string (⟨#[]⟩ : ByteArray), .bool false]) ?_ 2 _ rfl; refine cz ?_; refine z10q (cs := #[.int .i64 x8_18, .int .i64 0, .int .i64 0, .bool false, .int .i64 0, .int .i64 0, .string (⟨#[]⟩ : ByteArray), .bool false]) ?_ 1 _ rfl; refine cz ?_; refine z10q (cs := #[.int .i64 0, .int .i64 0, .int .i64 0, .bool false, .int .i64 0, .int .i64 0, .string (⟨#[]⟩ : ByteArray), .bool false]) ?_ 0 _ rfl; exact cy BK120.out)) : gb120 ≠ gb121)); have n7_ := Aside0.mk ((by rw [hg]; exact Nat.ne_of_gt (z20q (g := gb120) (o := .cells #[.int .i64 x8_18, .int .i64 x9_18, .int .i64 0, .bool false, .int .i64 0, .int .i64 0, .string (⟨#[]⟩ : ByteArray), .bool false] 107 (0, 0)) (by refine cz ?_; refine z10q (cs := #[.int .i64 x8_18, .int .i64 x9_18, .int .i64 0, .bool false, .int .i64 0, .int .i64 0, .string (⟨#[]⟩ : ByteArray), .bool false]) ?_ 7 _ rfl; refine cz ?_; refine z10q (cs := #[.int .i64 x8_18, .int .i64 x9_18, .int .i64 0, .bool false, .int .i64 0, .int .i64 0, .string (⟨#[]⟩ : ByteArray), .bool false]) ?_ 6 _ rfl; refine cz ?_; refine z10q (cs := #[.int .i64 x8_18, .int .i64 x9_18, .int .i64 0, .bool false, .int .i64 0, .int .i64 0, .string (⟨#[]⟩ : ByteArray), .bool false]) ?_ 5 _ rfl; refine cz ?_; refine z10q (cs := #[.int .i64 x8_18, .int .i64 x9_18, .int .i64 0, .bool false, .int .i64 0, .int .i64 0, .string (⟨#[]⟩ : ByteArray), .bool false]) ?_ 4 _ rfl; refine cz ?_; refine z10q (cs := #[.int .i64 x8_18, .int .i64 x9_18, .int .i64 0, .bool false, .int .i64 0, .int .i64 0, .string (⟨#[]⟩ : ByteArray), .bool false]) ?_ 3 _ rfl; refine cz ?_; refine z10q (cs := #[.int .i64 x8_18, .int .i64 x9_18, .int .i64 0, .bool false, .int .i64 0, .int .i64 0, .string (⟨#[]⟩ : ByteArray), .bool false]) ?_ 2 _ rfl; refine cz ?_; refine z10q (cs := #[.int .i64 x8_18, .int .i64 0, .int .i64 0, .bool false, .int .i64 0, .int .i64 0, .string (⟨#[]⟩ : ByteArray), .bool false]) ?_ 1 _ rfl; refine cz ?_; refine z10q (cs := #[.int .i64 0, .int .i64 0, .int .i64 0, .bool false, .int .i64 0, .int .i64 0, .string (⟨#[]⟩ : ByteArray), .bool false]) ?_ 0 _ rfl; exact cy BK120.out)) : gb121 ≠ gb120)); clear HO_5; clear BK120; clear HB; have HO_5 := n0_; have BK120 := n1_; have HB := n2_; have BK121 := n3_; have GW121 := n4_; have GE121 := n5_; have NB120_121 := n6_; have NB121_120 := n7_; clear n0_ n1_ n2_ n3_ n4_ n5_ n6_ n7_; clear hb hbox hg; have hnb27 := NB121_120.out; have hnc27 := NB120_121.out; have hcz28_0 : w26.cell? ⟨gb121, 0, none⟩ = some (.int .i64 0) := (z1q BK121.out 0).trans rfl; have hcz28_1 : w26.cell? ⟨gb121, 1, none⟩ = some (.int .i64 0) := (z1q BK121.out 1).trans rfl; have hcz28_2 : w26.cell? ⟨gb121, 2, none⟩ = some (.int .i64 0) := (z1q BK121.out 2).trans rfl; have hcz28_3 : w26.cell? ⟨gb121, 3, none⟩ = some (.bool false) := (z1q BK121.out 3).trans rfl; have hcz28_4 : w26.cell? ⟨gb121, 4, none⟩ = some (.int .i64 0) := (z1q BK121.out 4).trans rfl; have hcz28_5 : w26.cell? ⟨gb121, 5, none⟩ = some (.int .i64 0) := (z1q BK121.out 5).trans rfl; have hcz28_6 : w26.cell? ⟨gb121, 6, none⟩ = some (.string (⟨#[]⟩ : ByteArray)) := (z1q BK121.out 6).trans rfl; have hcz28_7 : w26.cell? ⟨gb121, 7, none⟩ = some (.bool false) := (z1q BK121.out 7).trans rfl; have hfz28_0 := z0q BK121.out 0; have hfz28_1 := z0q BK121.out 1; have hfz28_2 := z0q BK121.out 2; have hfz28_3 := z0q BK121.out 3; have hfz28_4 := z0q BK121.out 4; have hfz28_5 := z0q BK121.out 5; have hfz28_6 := z0q BK121.out 6; have hfz28_7 := z0q BK121.out 7)))
               (try simp only [Act.put, setIfInBounds_toArray, set_cons_zero, set_cons_succ])
               go_cut [106] (fun v106 wc => ∃ (kq : Nat) (x106_22 : Bool), v106 = .bool x106_22 ∧ Aside0 (spec_Differ.j6 kq l0 l1 x5_2 x6_2 x7_2 x8_18 x9_18 x106_22 x8_18 x9_18 0 false 0 0 (⟨#[]⟩ : ByteArray) false x8_18 x9_18 0 false 0 0 (⟨#[]⟩ : ByteArray) false = some r) ∧ Aside0 (kq ≤ kj18) ∧ Aside0 (Kd.R k107 107 wc w.heap.size (fun k_ => k_ ≠ gb120 ∧ k_ ≠ gb121) u5 x5_2) ∧ Aside0 (wc.heap[gb120]? = some (.cells #[.int .i64 x8_18, .int .i64 x9_18, .int .i64 0, .bool false, .int .i64 0, .int .i64 0, .string (⟨#[]⟩ : ByteArray), .bool false] 107 (0, 0))) ∧ Aside0 (wc.heap[gb121]? = some (.cells #[.int .i64 x8_18, .int .i64 x9_18, .int .i64 0, .bool false, .int .i64 0, .int .i64 0, .string (⟨#[]⟩ : ByteArray), .bool false] 107 (0, 0))) ∧ Aside0 (Below w.heap.size w wc))
               case first =>
                have H := HC23.out
                clear HC23
                refine wpAbs (fun wX => Kd.R k107 107 wX w.heap.size (fun k_ => k_ ≠ gb120 ∧ k_ ≠ gb121) u5 x5_2 ∧ wX.heap[gb120]? = some (.cells #[.int .i64 x8_18, .int .i64 x9_18, .int .i64 0, .bool false, .int .i64 0, .int .i64 0, .string (⟨#[]⟩ : ByteArray), .bool false] 107 (0, 0)) ∧ wX.heap[gb121]? = some (.cells #[.int .i64 x8_18, .int .i64 x9_18, .int .i64 0, .bool false, .int .i64 0, .int .i64 0, .string (⟨#[]⟩ : ByteArray), .bool false] 107 (0, 0)) ∧ Below w.heap.size w wX) ?hw ?_
                case hw => exact ⟨by (with_reducible repeat (first | apply Kd.R_alloc | apply Kd.R_drewN | apply Kd.R_drew)); exact Kd.R_mono (Kd.R_far (p := ⟨gb121, 7, none⟩) (Kd.R_far (p := ⟨gb121, 6, none⟩) (Kd.R_far (p := ⟨gb121, 5, none⟩) (Kd.R_far (p := ⟨gb121, 4, none⟩) (Kd.R_far (p := ⟨gb121, 3, none⟩) (Kd.R_far (p := ⟨gb121, 2, none⟩) (Kd.R_far (p := ⟨gb121, 1, none⟩) (Kd.R_far (p := ⟨gb121, 0, none⟩) (Kd.R_mono HO_5.out (fun k_ hk => (⟨hk, hk.2⟩ : _ ∧ k_ ≠ gb121))) (fun _ hk => hk.2) (.int .i64 x8_18)) (fun _ hk => hk.2) (.int .i64 x9_18)) (fun _ hk => hk.2) (.int .i64 0)) (fun _ hk => hk.2) (.bool false)) (fun _ hk => hk.2) (.int .i64 0)) (fun _ hk => hk.2) (.int .i64 0)) (fun _ hk => hk.2) (.string (⟨#[]⟩ : ByteArray))) (fun _ hk => hk.2) (.bool false)) (fun _ hk => ⟨hk.1.1.2, hk.1.2⟩), by (with_reducible repeat (first | refine z14q ?_ _ | refine z18q ?_ | refine z12q ?_ _)); refine blk_far ?_ NB120_121.out _; (with_reducible repeat (first | refine z14q ?_ _ | refine z18q ?_ | refine z12q ?_ _)); refine blk_far ?_ NB120_121.out _; (with_reducible repeat (first | refine z14q ?_ _ | refine z18q ?_ | refine z12q ?_ _)); refine blk_far ?_ NB120_121.out _; (with_reducible repeat (first | refine z14q ?_ _ | refine z18q ?_ | refine z12q ?_ _)); refine blk_far ?_ NB120_121.out _; (with_reducible repeat (first | refine z14q ?_ _ | refine z18q ?_ | refine z12q ?_ _)); refine blk_far ?_ NB120_121.out _; (with_reducible repeat (first | refine z14q ?_ _ | refine z18q ?_ | refine z12q ?_ _)); refine blk_far ?_ NB120_121.out _; (with_reducible repeat (first | refine z14q ?_ _ | refine z18q ?_ | refine z12q ?_ _)); refine blk_far ?_ NB120_121.out _; (with_reducible repeat (first | refine z14q ?_ _ | refine z18q ?_ | refine z12q ?_ _)); refine blk_far ?_ NB120_121.out _; (with_reducible repeat (first | refine z14q ?_ _ | refine z18q ?_ | refine z12q ?_ _)); exact BK120.out, by refine cz ?_; refine z10q (cs := #[.int .i64 x8_18, .int .i64 x9_18, .int .i64 0, .bool false, .int .i64 0, .int .i64 0, .string (⟨#[]⟩ : ByteArray), .bool false]) ?_ 7 _ rfl; refine cz ?_; refine z10q (cs := #[.int .i64 x8_18, .int .i64 x9_18, .int .i64 0, .bool false, .int .i64 0, .int .i64 0, .string (⟨#[]⟩ : ByteArray), .bool false]) ?_ 6 _ rfl; refine cz ?_; refine z10q (cs := #[.int .i64 x8_18, .int .i64 x9_18, .int .i64 0, .bool false, .int .i64 0, .int .i64 0, .string (⟨#[]⟩ : ByteArray), .bool false]) ?_ 5 _ rfl; refine cz ?_; refine z10q (cs := #[.int .i64 x8_18, .int .i64 x9_18, .int .i64 0, .bool false, .int .i64 0, .int .i64 0, .string (⟨#[]⟩ : ByteArray), .bool false]) ?_ 4 _ rfl; refine cz ?_; refine z10q (cs := #[.int .i64 x8_18, .int .i64 x9_18, .int .i64 0, .bool false, .int .i64 0, .int .i64 0, .string (⟨#[]⟩ : ByteArray), .bool false]) ?_ 3 _ rfl; refine cz ?_; refine z10q (cs := #[.int .i64 x8_18, .int .i64 x9_18, .int .i64 0, .bool false, .int .i64 0, .int .i64 0, .string (⟨#[]⟩ : ByteArray), .bool false]) ?_ 2 _ rfl; refine cz ?_; refine z10q (cs := #[.int .i64 x8_18, .int .i64 0, .int .i64 0, .bool false, .int .i64 0, .int .i64 0, .string (⟨#[]⟩ : ByteArray), .bool false]) ?_ 1 _ rfl; refine cz ?_; refine z10q (cs := #[.int .i64 0, .int .i64 0, .int .i64 0, .bool false, .int .i64 0, .int .i64 0, .string (⟨#[]⟩ : ByteArray), .bool false]) ?_ 0 _ rfl; (with_reducible repeat (first | refine z14q ?_ _ | refine z18q ?_ | refine z12q ?_ _)); exact BK121.out, by repeat (first | (with_reducible first | exact HB.out | apply z7q | apply z3q | apply z4q | refine z11q ?_ GE120.out | refine z11q ?_ GE121.out) | exact HB.out)⟩
                clear HO_5 BK120 BK121 HB
                rintro wX ⟨nO_, n0_, n1_, nB_⟩
                have HO_5 := Aside0.mk nO_
                have BK120 := Aside0.mk n0_
                have BK121 := Aside0.mk n1_
                have HB := Aside0.mk nB_
                clear nO_ n0_ n1_ nB_
                repeat (first | clear hcz28_0 | clear hcz28_1 | clear hcz28_2 | clear hcz28_3 | clear hcz28_4 | clear hcz28_5 | clear hcz28_6 | clear hcz28_7 | clear hfz28_0 | clear hfz28_1 | clear hfz28_2 | clear hfz28_3 | clear hfz28_4 | clear hfz28_5 | clear hfz28_6 | clear hfz28_7)
                by_cases c29 : x6_2 < (l0.length : Int)
                ·rw [if_pos c29] at H
                 have c29b0 : decide (x6_2 < (l0.length : Int)) = true := decide_eq_true c29
                 clear c29
                 (first | rw [c29b0] | (simp only [i64_w, i32_w]; rw [c29b0]) | skip)
                 by_cases c30 : 0 ≤ x6_2
                 ·rw [if_pos c30] at H
                  have c30b0 : decide (0 ≤ x6_2) = true := decide_eq_true c30
                  clear c30
                  by_cases c31 : ((rd_T107 l0 x6_2).f0) = x8_18
                  ·as_aux_lemma =>
                   rw [if_pos c31] at H
                   have c31b0 : (((rd_T107 l0 x6_2).f0) == x8_18) = true := beq_iff_eq.mpr c31
                   have c31b1 : (((rd_T107 l0 x6_2).f0) != x8_18) = false := bne_eq_false_iff_eq.mpr c31
                   clear c31
                   have H' := Aside0.mk H
                   clear H
                   have p122 : 0 ≤ (x6_2 : Int) := of_decide_eq_true (by first | (with_reducible assumption) | assumption)
                   have q122 : x6_2 < (l0.length : Int) := of_decide_eq_true (by first | (with_reducible assumption) | assumption)
                   obtain ⟨ad122, e122, hx122_0, hx122_1, hx122_2, hx122_3, hx122_4, hx122_5, hx122_6, hx122_7⟩ := at_T107 HR0.out x6_2 p122 q122
                   cases e122
                   replace hx122_0 := (hbc HB.out hx122_0).trans hx122_0
                   replace hx122_1 := (hbc HB.out hx122_1).trans hx122_1
                   replace hx122_2 := (hbc HB.out hx122_2).trans hx122_2
                   replace hx122_3 := (hbc HB.out hx122_3).trans hx122_3
                   replace hx122_4 := (hbc HB.out hx122_4).trans hx122_4
                   replace hx122_5 := (hbc HB.out hx122_5).trans hx122_5
                   replace hx122_6 := (hbc HB.out hx122_6).trans hx122_6
                   replace hx122_7 := (hbc HB.out hx122_7).trans hx122_7
                   (try have hy122_0 := fun (n_ : Nat) => (show (wX.drewN n_).cell? _ = some _ from hx122_0))
                   (try have hy122_1 := fun (n_ : Nat) => (show (wX.drewN n_).cell? _ = some _ from hx122_1))
                   (try have hy122_2 := fun (n_ : Nat) => (show (wX.drewN n_).cell? _ = some _ from hx122_2))
                   (try have hy122_3 := fun (n_ : Nat) => (show (wX.drewN n_).cell? _ = some _ from hx122_3))
                   (try have hy122_4 := fun (n_ : Nat) => (show (wX.drewN n_).cell? _ = some _ from hx122_4))
                   (try have hy122_5 := fun (n_ : Nat) => (show (wX.drewN n_).cell? _ = some _ from hx122_5))
                   (try have hy122_6 := fun (n_ : Nat) => (show (wX.drewN n_).cell? _ = some _ from hx122_6))
                   (try have hy122_7 := fun (n_ : Nat) => (show (wX.drewN n_).cell? _ = some _ from hx122_7))
                   replace p122 := eq_true p122
                   replace q122 := eq_true q122
                   have p123 : 0 ≤ (x6_2 : Int) := of_decide_eq_true (by first | (with_reducible assumption) | assumption)
                   have q123 : x6_2 < (l0.length : Int) := of_decide_eq_true (by first | (with_reducible assumption) | assumption)
                   obtain ⟨ad123, e123, hx123_0, hx123_1, hx123_2, hx123_3, hx123_4, hx123_5, hx123_6, hx123_7⟩ := at_T107 HR0.out x6_2 p123 q123
                   obtain rfl : ad122 = ad123 := (by injection e123)
                   replace hx123_0 := (hbc HB.out hx123_0).trans hx123_0
                   replace hx123_1 := (hbc HB.out hx123_1).trans hx123_1
                   replace hx123_2 := (hbc HB.out hx123_2).trans hx123_2
                   replace hx123_3 := (hbc HB.out hx123_3).trans hx123_3
                   replace hx123_4 := (hbc HB.out hx123_4).trans hx123_4
                   replace hx123_5 := (hbc HB.out hx123_5).trans hx123_5
                   replace hx123_6 := (hbc HB.out hx123_6).trans hx123_6
                   replace hx123_7 := (hbc HB.out hx123_7).trans hx123_7
                   (try have hy123_0 := fun (n_ : Nat) => (show (wX.drewN n_).cell? _ = some _ from hx123_0))
                   (try have hy123_1 := fun (n_ : Nat) => (show (wX.drewN n_).cell? _ = some _ from hx123_1))
                   (try have hy123_2 := fun (n_ : Nat) => (show (wX.drewN n_).cell? _ = some _ from hx123_2))
                   (try have hy123_3 := fun (n_ : Nat) => (show (wX.drewN n_).cell? _ = some _ from hx123_3))
                   (try have hy123_4 := fun (n_ : Nat) => (show (wX.drewN n_).cell? _ = some _ from hx123_4))
                   (try have hy123_5 := fun (n_ : Nat) => (show (wX.drewN n_).cell? _ = some _ from hx123_5))
                   (try have hy123_6 := fun (n_ : Nat) => (show (wX.drewN n_).cell? _ = some _ from hx123_6))
                   (try have hy123_7 := fun (n_ : Nat) => (show (wX.drewN n_).cell? _ = some _ from hx123_7))
                   replace p123 := eq_true p123
                   replace q123 := eq_true q123
                   go_wp2
                   repeat (go_quiet (fail); try go_wp2)
                   go_meet
                   case rel => exact ⟨_, ((((rd_T107 l0 x6_2).f1) == x9_18)), (by first | rfl | (simp; done) | (simp [*]; done) | (simp; unfold wrap64; omega)), H', ⟨by have := HJ2.out; have := HK2.out; have := HJ7.out; have := HJ10.out; have := HJ13.out; have := HJ18.out; first | omega | exact Nat.le_refl _⟩, ⟨by (with_reducible repeat (first | apply Kd.R_alloc | apply Kd.R_drewN | apply Kd.R_drew)); exact HO_5.out⟩, ⟨by (with_reducible repeat (first | refine z14q ?_ _ | refine z18q ?_ | refine z12q ?_ _)); exact BK120.out⟩, ⟨by (with_reducible repeat (first | refine z14q ?_ _ | refine z18q ?_ | refine z12q ?_ _)); exact BK121.out⟩, ⟨by repeat (first | (with_reducible first | exact HB.out | apply z7q | apply z3q | apply z4q | refine z11q ?_ GE120.out | refine z11q ?_ GE121.out) | exact HB.out)⟩⟩
                  ·as_aux_lemma =>
                   rw [if_neg c31] at H
                   have c31b0 : (((rd_T107 l0 x6_2).f0) == x8_18) = false := beq_eq_false_iff_ne.mpr c31
                   have c31b1 : (((rd_T107 l0 x6_2).f0) != x8_18) = true := bne_iff_ne.mpr c31
                   have H' := Aside0.mk H
                   clear H
                   have p122 : 0 ≤ (x6_2 : Int) := of_decide_eq_true (by first | (with_reducible assumption) | assumption)
                   have q122 : x6_2 < (l0.length : Int) := of_decide_eq_true (by first | (with_reducible assumption) | assumption)
                   obtain ⟨ad122, e122, hx122_0, hx122_1, hx122_2, hx122_3, hx122_4, hx122_5, hx122_6, hx122_7⟩ := at_T107 HR0.out x6_2 p122 q122
                   cases e122
                   replace hx122_0 := (hbc HB.out hx122_0).trans hx122_0
                   replace hx122_1 := (hbc HB.out hx122_1).trans hx122_1
                   replace hx122_2 := (hbc HB.out hx122_2).trans hx122_2
                   replace hx122_3 := (hbc HB.out hx122_3).trans hx122_3
                   replace hx122_4 := (hbc HB.out hx122_4).trans hx122_4
                   replace hx122_5 := (hbc HB.out hx122_5).trans hx122_5
                   replace hx122_6 := (hbc HB.out hx122_6).trans hx122_6
                   replace hx122_7 := (hbc HB.out hx122_7).trans hx122_7
                   (try have hy122_0 := fun (n_ : Nat) => (show (wX.drewN n_).cell? _ = some _ from hx122_0))
                   (try have hy122_1 := fun (n_ : Nat) => (show (wX.drewN n_).cell? _ = some _ from hx122_1))
                   (try have hy122_2 := fun (n_ : Nat) => (show (wX.drewN n_).cell? _ = some _ from hx122_2))
                   (try have hy122_3 := fun (n_ : Nat) => (show (wX.drewN n_).cell? _ = some _ from hx122_3))
                   (try have hy122_4 := fun (n_ : Nat) => (show (wX.drewN n_).cell? _ = some _ from hx122_4))
                   (try have hy122_5 := fun (n_ : Nat) => (show (wX.drewN n_).cell? _ = some _ from hx122_5))
                   (try have hy122_6 := fun (n_ : Nat) => (show (wX.drewN n_).cell? _ = some _ from hx122_6))
                   (try have hy122_7 := fun (n_ : Nat) => (show (wX.drewN n_).cell? _ = some _ from hx122_7))
                   replace p122 := eq_true p122
                   replace q122 := eq_true q122
                   go_wp2
                   repeat (go_quiet (fail); try go_wp2)
                   go_meet
                   case rel => exact ⟨_, (false), (by first | rfl | (simp; done) | (simp [*]; done) | (simp; unfold wrap64; omega)), H', ⟨by have := HJ2.out; have := HK2.out; have := HJ7.out; have := HJ10.out; have := HJ13.out; have := HJ18.out; first | omega | exact Nat.le_refl _⟩, ⟨by (with_reducible repeat (first | apply Kd.R_alloc | apply Kd.R_drewN | apply Kd.R_drew)); exact HO_5.out⟩, ⟨by (with_reducible repeat (first | refine z14q ?_ _ | refine z18q ?_ | refine z12q ?_ _)); exact BK120.out⟩, ⟨by (with_reducible repeat (first | refine z14q ?_ _ | refine z18q ?_ | refine z12q ?_ _)); exact BK121.out⟩, ⟨by repeat (first | (with_reducible first | exact HB.out | apply z7q | apply z3q | apply z4q | refine z11q ?_ GE120.out | refine z11q ?_ GE121.out) | exact HB.out)⟩⟩
                 ·rw [if_neg c30] at H
                  exact absurd H (by simp)
                ·rw [if_neg c29] at H
                 have c29b0 : decide (x6_2 < (l0.length : Int)) = false := decide_eq_false c29
                 clear c29
                 (first | rw [c29b0] | (simp only [i64_w, i32_w]; rw [c29b0]) | skip)
                 have H' := Aside0.mk H
                 clear H
                 go_wp2
                 repeat (go_quiet (fail); try go_wp2)
                 go_meet
                 case rel => exact ⟨_, (false), (by first | rfl | (simp; done) | (simp [*]; done) | (simp; unfold wrap64; omega)), H', ⟨by have := HJ2.out; have := HK2.out; have := HJ7.out; have := HJ10.out; have := HJ13.out; have := HJ18.out; first | omega | exact Nat.le_refl _⟩, ⟨by (with_reducible repeat (first | apply Kd.R_alloc | apply Kd.R_drewN | apply Kd.R_drew)); exact HO_5.out⟩, ⟨by (with_reducible repeat (first | refine z14q ?_ _ | refine z18q ?_ | refine z12q ?_ _)); exact BK120.out⟩, ⟨by (with_reducible repeat (first | refine z14q ?_ _ | refine z18q ?_ | refine z12q ?_ _)); exact BK121.out⟩, ⟨by repeat (first | (with_reducible first | exact HB.out | apply z7q | apply z3q | apply z4q | refine z11q ?_ GE120.out | refine z11q ?_ GE121.out) | exact HB.out)⟩⟩
               case rest =>
                clear HC23
                try clear c1
                try clear p1
                try clear q1
                try clear hx1
                try clear c2
                try clear p2
                try clear c3
                try clear c5
                try clear c7
                try clear c9
                try clear c9b0
                try clear c10
                try clear p11
                try clear q11
                try clear hx11
                try clear c12
                try clear c12b0
                try clear p12
                try clear q12
                try clear hx12
                try clear c13
                try clear c13b0
                try clear c15
                try clear c15b0
                try clear c16
                try clear c16b0
                try clear c16b1
                try clear c17
                try clear c17b0
                try clear c20
                try clear c21
                try clear c21b0
                try clear c22
                try clear c22b0
                try clear c27
                try clear c29
                try clear c29b0
                try clear c30
                try clear c30b0
                try clear c31
                try clear c31b0
                try clear c31b1
                try clear hcz25_0
                try clear hcz25_1
                try clear hcz25_2
                try clear hcz25_3
                try clear hcz25_4
                try clear hcz25_5
                try clear hcz25_6
                try clear hcz25_7
                try clear hcz28_0
                try clear hcz28_1
                try clear hcz28_2
                try clear hcz28_3
                try clear hcz28_4
                try clear hcz28_5
                try clear hcz28_6
                try clear hcz28_7
                try clear hfz25_0
                try clear hfz25_1
                try clear hfz25_2
                try clear hfz25_3
                try clear hfz25_4
                try clear hfz25_5
                try clear hfz25_6
                try clear hfz25_7
                try clear hfz28_0
                try clear hfz28_1
                try clear hfz28_2
                try clear hfz28_3
                try clear hfz28_4
                try clear hfz28_5
                try clear hfz28_6
                try clear hfz28_7
                try clear hx113_0
                try clear hx113_1
                try clear hx113_2
                try clear hx113_3
                try clear hx113_4
                try clear hx113_5
                try clear hx113_6
                try clear hx113_7
                try clear hx114_0
                try clear hx114_1
                try clear hx114_2
                try clear hx114_3
                try clear hx114_4
                try clear hx114_5
                try clear hx114_6
                try clear hx114_7
                try clear hx115_0
                try clear hx115_1
                try clear hx115_2
                try clear hx115_3
                try clear hx115_4
                try clear hx115_5
                try clear hx115_6
                try clear hx115_7
                try clear hx116_0
                try clear hx116_1
                try clear hx116_2
                try clear hx116_3
                try clear hx116_4
                try clear hx116_5
                try clear hx116_6
                try clear hx116_7
                try clear hx118_0
                try clear hx118_1
                try clear hx118_2
                try clear hx118_3
                try clear hx118_4
                try clear hx118_5
                try clear hx118_6
                try clear hx118_7
                try clear hx119_0
                try clear hx119_1
                try clear hx119_2
                try clear hx119_3
                try clear hx119_4
                try clear hx119_5
                try clear hx119_6
                try clear hx119_7
                try clear hx122_0
                try clear hx122_1
                try clear hx122_2
                try clear hx122_3
                try clear hx122_4
                try clear hx122_5
                try clear hx122_6
                try clear hx122_7
                try clear hx123_0
                try clear hx123_1
                try clear hx123_2
                try clear hx123_3
                try clear hx123_4
                try clear hx123_5
                try clear hx123_6
                try clear hx123_7
                try clear p1
                try clear p11
                try clear p113
                try clear p114
                try clear p115
                try clear p116
                try clear p118
                try clear p119
                try clear p122
                try clear p123
                try clear p2
                try clear q1
                try clear q11
                try clear q113
                try clear q114
                try clear q115
                try clear q116
                try clear q118
                try clear q119
                try clear q122
                try clear q123
                obtain ⟨kq, x106_22, rfl, HA, HJ22, HO_5, BK120, BK121, HB⟩ := hcut
                cases kq with
                | zero => exact absurd HA.out (by simp [spec_Differ.j6])
                | succ kj22 =>
                 have H := HA.out
                 clear HA
                 simp only [spec_Differ.j6] at H
                 have HC32 := Aside0.mk H
                 clear H
                 go_upto_if 106 with (fail)
                 repeat (go_quiet (fail); go_upto_if 106 with (fail))
                 go_cut [6] (fun v6 wc => ∃ (kq : Nat) (x6_31 : Int) (x121000_31 : Int) (x121001_31 : Int) (x121002_31 : Int) (x121003_31 : Bool) (x121004_31 : Int) (x121005_31 : Int) (x121006_31 : ByteArray) (x121007_31 : Bool), v6 = .int .i64 x6_31 ∧ Aside0 (spec_Differ.j7 kq l0 l1 x5_2 x6_31 x7_2 x8_18 x9_18 x121000_31 x121001_31 x121002_31 x121003_31 x121004_31 x121005_31 x121006_31 x121007_31 x8_18 x9_18 0 false 0 0 (⟨#[]⟩ : ByteArray) false = some r) ∧ Aside0 (kq ≤ kj22) ∧ Aside0 (Kd.R k107 107 wc w.heap.size (fun k_ => k_ ≠ gb120 ∧ k_ ≠ gb121) u5 x5_2) ∧ Aside0 (wc.heap[gb120]? = some (.cells #[.int .i64 x121000_31, .int .i64 x121001_31, .int .i64 x121002_31, .bool x121003_31, .int .i64 x121004_31, .int .i64 x121005_31, .string x121006_31, .bool x121007_31] 107 (0, 0))) ∧ Aside0 (wc.heap[gb121]? = some (.cells #[.int .i64 x8_18, .int .i64 x9_18, .int .i64 0, .bool false, .int .i64 0, .int .i64 0, .string (⟨#[]⟩ : ByteArray), .bool false] 107 (0, 0))) ∧ Aside0 (Below w.heap.size w wc))
                 case first =>
                  have H := HC32.out
                  clear HC32
                  by_cases c33 : x106_22 = true
                  ·subst c33
                   have H1 : (if 0 ≤ x6_2 then (if x6_2 < (l0.length : Int) then (spec_Differ.j7 kj22 l0 l1 x5_2 (wrap64 (x6_2 + 1)) x7_2 x8_18 x9_18 ((rd_T107 l0 x6_2).f0) ((rd_T107 l0 x6_2).f1) ((rd_T107 l0 x6_2).f2.f0) ((rd_T107 l0 x6_2).f2.f1.f0) ((rd_T107 l0 x6_2).f2.f1.f1) ((rd_T107 l0 x6_2).f2.f1.f2) ((rd_T107 l0 x6_2).f2.f2) ((rd_T107 l0 x6_2).f3) x8_18 x9_18 0 false 0 0 (⟨#[]⟩ : ByteArray) false) else (none)) else (none)) = some r := by rw [if_pos rfl] at H; exact H
                   clear H
                   have H := H1
                   clear H1
                   by_cases c34 : 0 ≤ x6_2
                   ·rw [if_pos c34] at H
                    have c34b0 : decide (0 ≤ x6_2) = true := decide_eq_true c34
                    clear c34
                    (first | rw [c34b0] | (simp only [i64_w, i32_w]; rw [c34b0]) | skip)
                    by_cases c35 : x6_2 < (l0.length : Int)
                    ·rw [if_pos c35] at H
                     have c35b0 : decide (x6_2 < (l0.length : Int)) = true := decide_eq_true c35
                     clear c35
                     have H' := Aside0.mk H
                     clear H
                     have p124 : 0 ≤ (x6_2 : Int) := of_decide_eq_true (by first | (with_reducible assumption) | assumption)
                     have q124 : x6_2 < (l0.length : Int) := of_decide_eq_true (by first | (with_reducible assumption) | assumption)
                     obtain ⟨ad124, e124, hx124_0, hx124_1, hx124_2, hx124_3, hx124_4, hx124_5, hx124_6, hx124_7⟩ := at_T107 HR0.out x6_2 p124 q124
                     cases e124
                     replace hx124_0 := (hbc HB.out hx124_0).trans hx124_0
                     replace hx124_1 := (hbc HB.out hx124_1).trans hx124_1
                     replace hx124_2 := (hbc HB.out hx124_2).trans hx124_2
                     replace hx124_3 := (hbc HB.out hx124_3).trans hx124_3
                     replace hx124_4 := (hbc HB.out hx124_4).trans hx124_4
                     replace hx124_5 := (hbc HB.out hx124_5).trans hx124_5
                     replace hx124_6 := (hbc HB.out hx124_6).trans hx124_6
                     replace hx124_7 := (hbc HB.out hx124_7).trans hx124_7
                     replace p124 := eq_true p124
                     replace q124 := eq_true q124
                     have hnb36 := NB120_121.out
                     have hnc36 := NB121_120.out
                     have hcz37_0 : wc.cell? ⟨gb120, 0, none⟩ = some (.int .i64 x8_18) := (z1q BK120.out 0).trans rfl
                     have hcz37_1 : wc.cell? ⟨gb120, 1, none⟩ = some (.int .i64 x9_18) := (z1q BK120.out 1).trans rfl
                     have hcz37_2 : wc.cell? ⟨gb120, 2, none⟩ = some (.int .i64 0) := (z1q BK120.out 2).trans rfl
                     have hcz37_3 : wc.cell? ⟨gb120, 3, none⟩ = some (.bool false) := (z1q BK120.out 3).trans rfl
                     have hcz37_4 : wc.cell? ⟨gb120, 4, none⟩ = some (.int .i64 0) := (z1q BK120.out 4).trans rfl
                     have hcz37_5 : wc.cell? ⟨gb120, 5, none⟩ = some (.int .i64 0) := (z1q BK120.out 5).trans rfl
                     have hcz37_6 : wc.cell? ⟨gb120, 6, none⟩ = some (.string (⟨#[]⟩ : ByteArray)) := (z1q BK120.out 6).trans rfl
                     have hcz37_7 : wc.cell? ⟨gb120, 7, none⟩ = some (.bool false) := (z1q BK120.out 7).trans rfl
                     have hfz37_0 := z0q BK120.out 0
                     have hfz37_1 := z0q BK120.out 1
                     have hfz37_2 := z0q BK120.out 2
                     have hfz37_3 := z0q BK120.out 3
                     have hfz37_4 := z0q BK120.out 4
                     have hfz37_5 := z0q BK120.out 5
                     have hfz37_6 := z0q BK120.out 6
                     have hfz37_7 := z0q BK120.out 7
                     go_wp2
                     repeat (go_quiet (fail); try go_wp2)
                     go_meet
                     case rel => exact ⟨_, (wrap64 (x6_2 + 1)), ((rd_T107 l0 x6_2).f0), ((rd_T107 l0 x6_2).f1), ((rd_T107 l0 x6_2).f2.f0), ((rd_T107 l0 x6_2).f2.f1.f0), ((rd_T107 l0 x6_2).f2.f1.f1), ((rd_T107 l0 x6_2).f2.f1.f2), ((rd_T107 l0 x6_2).f2.f2), ((rd_T107 l0 x6_2).f3), (by first | rfl | (simp; done) | (simp [*]; done) | (simp; unfold wrap64; omega)), H', ⟨by have := HJ2.out; have := HK2.out; have := HJ7.out; have := HJ10.out; have := HJ13.out; have := HJ18.out; have := HJ22.out; first | omega | exact Nat.le_refl _⟩, ⟨by (with_reducible repeat (first | apply Kd.R_alloc | apply Kd.R_drewN | apply Kd.R_drew)); exact Kd.R_mono (Kd.R_far (p := ⟨gb120, 7, none⟩) (Kd.R_far (p := ⟨gb120, 6, none⟩) (Kd.R_far (p := ⟨gb120, 5, none⟩) (Kd.R_far (p := ⟨gb120, 4, none⟩) (Kd.R_far (p := ⟨gb120, 3, none⟩) (Kd.R_far (p := ⟨gb120, 2, none⟩) (Kd.R_far (p := ⟨gb120, 1, none⟩) (Kd.R_far (p := ⟨gb120, 0, none⟩) (Kd.R_mono HO_5.out (fun k_ hk => (⟨hk, hk.1⟩ : _ ∧ k_ ≠ gb120))) (fun _ hk => hk.2) (.int .i64 ((rd_T107 l0 x6_2).f0))) (fun _ hk => hk.2) (.int .i64 ((rd_T107 l0 x6_2).f1))) (fun _ hk => hk.2) (.int .i64 ((rd_T107 l0 x6_2).f2.f0))) (fun _ hk => hk.2) (.bool ((rd_T107 l0 x6_2).f2.f1.f0))) (fun _ hk => hk.2) (.int .i64 ((rd_T107 l0 x6_2).f2.f1.f1))) (fun _ hk => hk.2) (.int .i64 ((rd_T107 l0 x6_2).f2.f1.f2))) (fun _ hk => hk.2) (.string ((rd_T107 l0 x6_2).f2.f2))) (fun _ hk => hk.2) (.bool ((rd_T107 l0 x6_2).f3))) (fun _ hk => ⟨hk.1.1, hk.1.2⟩)⟩, ⟨by refine cz ?_; refine z10q (cs := #[.int .i64 ((rd_T107 l0 x6_2).f0), .int .i64 ((rd_T107 l0 x6_2).f1), .int .i64 ((rd_T107 l0 x6_2).f2.f0), .bool ((rd_T107 l0 x6_2).f2.f1.f0), .int .i64 ((rd_T107 l0 x6_2).f2.f1.f1), .int .i64 ((rd_T107 l0 x6_2).f2.f1.f2), .string ((rd_T107 l0 x6_2).f2.f2), .bool false]) ?_ 7 _ rfl; refine cz ?_; refine z10q (cs := #[.int .i64 ((rd_T107 l0 x6_2).f0), .int .i64 ((rd_T107 l0 x6_2).f1), .int .i64 ((rd_T107 l0 x6_2).f2.f0), .bool ((rd_T107 l0 x6_2).f2.f1.f0), .int .i64 ((rd_T107 l0 x6_2).f2.f1.f1), .int .i64 ((rd_T107 l0 x6_2).f2.f1.f2), .string (⟨#[]⟩ : ByteArray), .bool false]) ?_ 6 _ rfl; refine cz ?_; refine z10q (cs := #[.int .i64 ((rd_T107 l0 x6_2).f0), .int .i64 ((rd_T107 l0 x6_2).f1), .int .i64 ((rd_T107 l0 x6_2).f2.f0), .bool ((rd_T107 l0 x6_2).f2.f1.f0), .int .i64 ((rd_T107 l0 x6_2).f2.f1.f1), .int .i64 0, .string (⟨#[]⟩ : ByteArray), .bool false]) ?_ 5 _ rfl; refine cz ?_; refine z10q (cs := #[.int .i64 ((rd_T107 l0 x6_2).f0), .int .i64 ((rd_T107 l0 x6_2).f1), .int .i64 ((rd_T107 l0 x6_2).f2.f0), .bool ((rd_T107 l0 x6_2).f2.f1.f0), .int .i64 0, .int .i64 0, .string (⟨#[]⟩ : ByteArray), .bool false]) ?_ 4 _ rfl; refine cz ?_; refine z10q (cs := #[.int .i64 ((rd_T107 l0 x6_2).f0), .int .i64 ((rd_T107 l0 x6_2).f1), .int .i64 ((rd_T107 l0 x6_2).f2.f0), .bool false, .int .i64 0, .int .i64 0, .string (⟨#[]⟩ : ByteArray), .bool false]) ?_ 3 _ rfl; refine cz ?_; refine z10q (cs := #[.int .i64 ((rd_T107 l0 x6_2).f0), .int .i64 ((rd_T107 l0 x6_2).f1), .int .i64 0, .bool false, .int .i64 0, .int .i64 0, .string (⟨#[]⟩ : ByteArray), .bool false]) ?_ 2 _ rfl; refine cz ?_; refine z10q (cs := #[.int .i64 ((rd_T107 l0 x6_2).f0), .int .i64 x9_18, .int .i64 0, .bool false, .int .i64 0, .int .i64 0, .string (⟨#[]⟩ : ByteArray), .bool false]) ?_ 1 _ rfl; refine cz ?_; refine z10q (cs := #[.int .i64 x8_18, .int .i64 x9_18, .int .i64 0, .bool false, .int .i64 0, .int .i64 0, .string (⟨#[]⟩ : ByteArray), .bool false]) ?_ 0 _ rfl; (with_reducible repeat (first | refine z14q ?_ _ | refine z18q ?_ | refine z12q ?_ _)); exact BK120.out⟩, ⟨by (with_reducible repeat (first | refine z14q ?_ _ | refine z18q ?_ | refine z12q ?_ _)); refine blk_far ?_ NB121_120.out _; (with_reducible repeat (first | refine z14q ?_ _ | refine z18q ?_ | refine z12q ?_ _)); refine blk_far ?_ NB121_120.out _; (with_reducible repeat (first | refine z14q ?_ _ | refine z18q ?_ | refine z12q ?_ _)); refine blk_far ?_ NB121_120.out _; (with_reducible repeat (first | refine z14q ?_ _ | refine z18q ?_ | refine z12q ?_ _)); refine blk_far ?_ NB121_120.out _; (with_reducible repeat (first | refine z14q ?_ _ | refine z18q ?_ | refine z12q ?_ _)); refine blk_far ?_ NB121_120.out _; (with_reducible repeat (first | refine z14q ?_ _ | refine z18q ?_ | refine z12q ?_ _)); refine blk_far ?_ NB121_120.out _; (with_reducible repeat (first | refine z14q ?_ _ | refine z18q ?_ | refine z12q ?_ _)); refine blk_far ?_ NB121_120.out _; (with_reducible repeat (first | refine z14q ?_ _ | refine z18q ?_ | refine z12q ?_ _)); refine blk_far ?_ NB121_120.out _; (with_reducible repeat (first | refine z14q ?_ _ | refine z18q ?_ | refine z12q ?_ _)); exact BK121.out⟩, ⟨by repeat (first | (with_reducible first | exact HB.out | apply z7q | apply z3q | apply z4q | refine z11q ?_ GE120.out | refine z11q ?_ GE121.out) | exact HB.out)⟩⟩
                    ·rw [if_neg c35] at H
                     exact absurd H (by simp)
                   ·rw [if_neg c34] at H
                    exact absurd H (by simp)
                  ·replace c33 := Bool.eq_false_iff.mpr c33
                   subst c33
                   have H1 : (spec_Differ.j7 kj22 l0 l1 x5_2 x6_2 x7_2 x8_18 x9_18 x8_18 x9_18 0 false 0 0 (⟨#[]⟩ : ByteArray) false x8_18 x9_18 0 false 0 0 (⟨#[]⟩ : ByteArray) false) = some r := by rw [if_neg (show ¬ (false = true) by decide)] at H; exact H
                   clear H
                   have H := H1
                   clear H1
                   have H' := Aside0.mk H
                   clear H
                   go_wp2
                   repeat (go_quiet (fail); try go_wp2)
                   go_meet
                   case rel => exact ⟨_, (x6_2), (x8_18), (x9_18), (0), (false), (0), (0), ((⟨#[]⟩ : ByteArray)), (false), (by first | rfl | (simp; done) | (simp [*]; done) | (simp; unfold wrap64; omega)), H', ⟨by have := HJ2.out; have := HK2.out; have := HJ7.out; have := HJ10.out; have := HJ13.out; have := HJ18.out; have := HJ22.out; first | omega | exact Nat.le_refl _⟩, ⟨by (with_reducible repeat (first | apply Kd.R_alloc | apply Kd.R_drewN | apply Kd.R_drew)); exact HO_5.out⟩, ⟨by (with_reducible repeat (first | refine z14q ?_ _ | refine z18q ?_ | refine z12q ?_ _)); exact BK120.out⟩, ⟨by (with_reducible repeat (first | refine z14q ?_ _ | refine z18q ?_ | refine z12q ?_ _)); exact BK121.out⟩, ⟨by repeat (first | (with_reducible first | exact HB.out | apply z7q | apply z3q | apply z4q | refine z11q ?_ GE120.out | refine z11q ?_ GE121.out) | exact HB.out)⟩⟩
                 case rest =>
                  clear HC32
                  try clear c1
                  try clear p1
                  try clear q1
                  try clear hx1
                  try clear c2
                  try clear p2
                  try clear c3
                  try clear c5
                  try clear p6
                  try clear c7
                  try clear c9
                  try clear c9b0
                  try clear c10
                  try clear p11
                  try clear q11
                  try clear hx11
                  try clear c12
                  try clear c12b0
                  try clear p12
                  try clear q12
                  try clear hx12
                  try clear c13
                  try clear c13b0
                  try clear c15
                  try clear c15b0
                  try clear c16
                  try clear c16b0
                  try clear c16b1
                  try clear c17
                  try clear c17b0
                  try clear c20
                  try clear c21
                  try clear c21b0
                  try clear c22
                  try clear c22b0
                  try clear c27
                  try clear c29
                  try clear c29b0
                  try clear c30
                  try clear c30b0
                  try clear c31
                  try clear c31b0
                  try clear c31b1
                  try clear c33
                  try clear c34
                  try clear c34b0
                  try clear c35
                  try clear c35b0
                  try clear c36
                  try clear hcz25_0
                  try clear hcz25_1
                  try clear hcz25_2
                  try clear hcz25_3
                  try clear hcz25_4
                  try clear hcz25_5
                  try clear hcz25_6
                  try clear hcz25_7
                  try clear hcz28_0
                  try clear hcz28_1
                  try clear hcz28_2
                  try clear hcz28_3
                  try clear hcz28_4
                  try clear hcz28_5
                  try clear hcz28_6
                  try clear hcz28_7
                  try clear hcz37_0
                  try clear hcz37_1
                  try clear hcz37_2
                  try clear hcz37_3
                  try clear hcz37_4
                  try clear hcz37_5
                  try clear hcz37_6
                  try clear hcz37_7
                  try clear hfz25_0
                  try clear hfz25_1
                  try clear hfz25_2
                  try clear hfz25_3
                  try clear hfz25_4
                  try clear hfz25_5
                  try clear hfz25_6
                  try clear hfz25_7
                  try clear hfz28_0
                  try clear hfz28_1
                  try clear hfz28_2
                  try clear hfz28_3
                  try clear hfz28_4
                  try clear hfz28_5
                  try clear hfz28_6
                  try clear hfz28_7
                  try clear hfz37_0
                  try clear hfz37_1
                  try clear hfz37_2
                  try clear hfz37_3
                  try clear hfz37_4
                  try clear hfz37_5
                  try clear hfz37_6
                  try clear hfz37_7
                  try clear hx113_0
                  try clear hx113_1
                  try clear hx113_2
                  try clear hx113_3
                  try clear hx113_4
                  try clear hx113_5
                  try clear hx113_6
                  try clear hx113_7
                  try clear hx114_0
                  try clear hx114_1
                  try clear hx114_2
                  try clear hx114_3
                  try clear hx114_4
                  try clear hx114_5
                  try clear hx114_6
                  try clear hx114_7
                  try clear hx115_0
                  try clear hx115_1
                  try clear hx115_2
                  try clear hx115_3
                  try clear hx115_4
                  try clear hx115_5
                  try clear hx115_6
                  try clear hx115_7
                  try clear hx116_0
                  try clear hx116_1
                  try clear hx116_2
                  try clear hx116_3
                  try clear hx116_4
                  try clear hx116_5
                  try clear hx116_6
                  try clear hx116_7
                  try clear hx118_0
                  try clear hx118_1
                  try clear hx118_2
                  try clear hx118_3
                  try clear hx118_4
                  try clear hx118_5
                  try clear hx118_6
                  try clear hx118_7
                  try clear hx119_0
                  try clear hx119_1
                  try clear hx119_2
                  try clear hx119_3
                  try clear hx119_4
                  try clear hx119_5
                  try clear hx119_6
                  try clear hx119_7
                  try clear hx122_0
                  try clear hx122_1
                  try clear hx122_2
                  try clear hx122_3
                  try clear hx122_4
                  try clear hx122_5
                  try clear hx122_6
                  try clear hx122_7
                  try clear hx123_0
                  try clear hx123_1
                  try clear hx123_2
                  try clear hx123_3
                  try clear hx123_4
                  try clear hx123_5
                  try clear hx123_6
                  try clear hx123_7
                  try clear hx124_0
                  try clear hx124_1
                  try clear hx124_2
                  try clear hx124_3
                  try clear hx124_4
                  try clear hx124_5
                  try clear hx124_6
                  try clear hx124_7
                  try clear p1
                  try clear p11
                  try clear p113
                  try clear p114
                  try clear p115
                  try clear p116
                  try clear p118
                  try clear p119
                  try clear p12
                  try clear p122
                  try clear p123
                  try clear p124
                  try clear p2
                  try clear q1
                  try clear q11
                  try clear q113
                  try clear q114
                  try clear q115
                  try clear q116
                  try clear q118
                  try clear q119
                  try clear q12
                  try clear q122
                  try clear q123
                  try clear q124
                  obtain ⟨kq, x6_31, x121000_31, x121001_31, x121002_31, x121003_31, x121004_31, x121005_31, x121006_31, x121007_31, rfl, HA, HJ31, HO_5, BK120, BK121, HB⟩ := hcut
                  cases kq with
                  | zero => exact absurd HA.out (by simp [spec_Differ.j7])
                  | succ kj31 =>
                   have H := HA.out
                   clear HA
                   simp only [spec_Differ.j7] at H
                   have HC38 := Aside0.mk H
                   clear H
                   go_upto_region 20 with (fail)
                   repeat (go_quiet (fail); go_upto_region 20 with (fail))
                   go_cut [134] (fun v134 wc => ∃ (kq : Nat) (x134_37 : Bool), v134 = .bool x134_37 ∧ Aside0 (spec_Differ.j8 kq l0 l1 x5_2 x6_31 x7_2 x134_37 x121000_31 x121001_31 x121002_31 x121003_31 x121004_31 x121005_31 x121006_31 x121007_31 x8_18 x9_18 0 false 0 0 (⟨#[]⟩ : ByteArray) false = some r) ∧ Aside0 (kq ≤ kj31) ∧ Aside0 (Kd.R k107 107 wc w.heap.size (fun k_ => k_ ≠ gb120 ∧ k_ ≠ gb121) u5 x5_2) ∧ Aside0 (wc.heap[gb120]? = some (.cells #[.int .i64 x121000_31, .int .i64 x121001_31, .int .i64 x121002_31, .bool x121003_31, .int .i64 x121004_31, .int .i64 x121005_31, .string x121006_31, .bool x121007_31] 107 (0, 0))) ∧ Aside0 (wc.heap[gb121]? = some (.cells #[.int .i64 x8_18, .int .i64 x9_18, .int .i64 0, .bool false, .int .i64 0, .int .i64 0, .string (⟨#[]⟩ : ByteArray), .bool false] 107 (0, 0))) ∧ Aside0 (Below w.heap.size w wc))
                   case first =>
                    have H := HC38.out
                    clear HC38
                    by_cases c39 : x7_2 < (l1.length : Int)
                    ·rw [if_pos c39] at H
                     have c39b0 : decide (x7_2 < (l1.length : Int)) = true := decide_eq_true c39
                     clear c39
                     (first | rw [c39b0] | (simp only [i64_w, i32_w]; rw [c39b0]) | skip)
                     by_cases c40 : 0 ≤ x7_2
                     ·as_aux_lemma =>
                      rw [if_pos c40] at H
                      have c40b0 : decide (0 ≤ x7_2) = true := decide_eq_true c40
                      clear c40
                      by_cases c41 : ((rd_T107 l1 x7_2).f0) = x8_18
                      ·rw [if_pos c41] at H
                       have c41b0 : (((rd_T107 l1 x7_2).f0) == x8_18) = true := beq_iff_eq.mpr c41
                       have c41b1 : (((rd_T107 l1 x7_2).f0) != x8_18) = false := bne_eq_false_iff_eq.mpr c41
                       clear c41
                       have H' := Aside0.mk H
                       clear H
                       have p125 : 0 ≤ (x7_2 : Int) := of_decide_eq_true (by first | (with_reducible assumption) | assumption)
                       have q125 : x7_2 < (l1.length : Int) := of_decide_eq_true (by first | (with_reducible assumption) | assumption)
                       obtain ⟨ad125, e125, hx125_0, hx125_1, hx125_2, hx125_3, hx125_4, hx125_5, hx125_6, hx125_7⟩ := at_T107 HR1.out x7_2 p125 q125
                       cases e125
                       replace hx125_0 := (hbc HB.out hx125_0).trans hx125_0
                       replace hx125_1 := (hbc HB.out hx125_1).trans hx125_1
                       replace hx125_2 := (hbc HB.out hx125_2).trans hx125_2
                       replace hx125_3 := (hbc HB.out hx125_3).trans hx125_3
                       replace hx125_4 := (hbc HB.out hx125_4).trans hx125_4
                       replace hx125_5 := (hbc HB.out hx125_5).trans hx125_5
                       replace hx125_6 := (hbc HB.out hx125_6).trans hx125_6
                       replace hx125_7 := (hbc HB.out hx125_7).trans hx125_7
                       replace p125 := eq_true p125
                       replace q125 := eq_true q125
                       have p126 : 0 ≤ (x7_2 : Int) := of_decide_eq_true (by first | (with_reducible assumption) | assumption)
                       have q126 : x7_2 < (l1.length : Int) := of_decide_eq_true (by first | (with_reducible assumption) | assumption)
                       obtain ⟨ad126, e126, hx126_0, hx126_1, hx126_2, hx126_3, hx126_4, hx126_5, hx126_6, hx126_7⟩ := at_T107 HR1.out x7_2 p126 q126
                       obtain rfl : ad125 = ad126 := (by injection e126)
                       replace hx126_0 := (hbc HB.out hx126_0).trans hx126_0
                       replace hx126_1 := (hbc HB.out hx126_1).trans hx126_1
                       replace hx126_2 := (hbc HB.out hx126_2).trans hx126_2
                       replace hx126_3 := (hbc HB.out hx126_3).trans hx126_3
                       replace hx126_4 := (hbc HB.out hx126_4).trans hx126_4
                       replace hx126_5 := (hbc HB.out hx126_5).trans hx126_5
                       replace hx126_6 := (hbc HB.out hx126_6).trans hx126_6
                       replace hx126_7 := (hbc HB.out hx126_7).trans hx126_7
                       replace p126 := eq_true p126
                       replace q126 := eq_true q126
                       go_wp2
                       repeat (go_quiet (fail); try go_wp2)
                       go_meet
                       case rel => exact ⟨_, ((((rd_T107 l1 x7_2).f1) == x9_18)), (by first | rfl | (simp; done) | (simp [*]; done) | (simp; unfold wrap64; omega)), H', ⟨by have := HJ2.out; have := HK2.out; have := HJ7.out; have := HJ10.out; have := HJ13.out; have := HJ18.out; have := HJ22.out; have := HJ31.out; first | omega | exact Nat.le_refl _⟩, ⟨by (with_reducible repeat (first | apply Kd.R_alloc | apply Kd.R_drewN | apply Kd.R_drew)); exact HO_5.out⟩, ⟨by (with_reducible repeat (first | refine z14q ?_ _ | refine z18q ?_ | refine z12q ?_ _)); exact BK120.out⟩, ⟨by (with_reducible repeat (first | refine z14q ?_ _ | refine z18q ?_ | refine z12q ?_ _)); exact BK121.out⟩, ⟨by repeat (first | (with_reducible first | exact HB.out | apply z7q | apply z3q | apply z4q | refine z11q ?_ GE120.out | refine z11q ?_ GE121.out) | exact HB.out)⟩⟩
                      ·rw [if_neg c41] at H
                       have c41b0 : (((rd_T107 l1 x7_2).f0) == x8_18) = false := beq_eq_false_iff_ne.mpr c41
                       have c41b1 : (((rd_T107 l1 x7_2).f0) != x8_18) = true := bne_iff_ne.mpr c41
                       have H' := Aside0.mk H
                       clear H
                       have p125 : 0 ≤ (x7_2 : Int) := of_decide_eq_true (by first | (with_reducible assumption) | assumption)
                       have q125 : x7_2 < (l1.length : Int) := of_decide_eq_true (by first | (with_reducible assumption) | assumption)
                       obtain ⟨ad125, e125, hx125_0, hx125_1, hx125_2, hx125_3, hx125_4, hx125_5, hx125_6, hx125_7⟩ := at_T107 HR1.out x7_2 p125 q125
                       cases e125
                       replace hx125_0 := (hbc HB.out hx125_0).trans hx125_0
                       replace hx125_1 := (hbc HB.out hx125_1).trans hx125_1
                       replace hx125_2 := (hbc HB.out hx125_2).trans hx125_2
                       replace hx125_3 := (hbc HB.out hx125_3).trans hx125_3
                       replace hx125_4 := (hbc HB.out hx125_4).trans hx125_4
                       replace hx125_5 := (hbc HB.out hx125_5).trans hx125_5
                       replace hx125_6 := (hbc HB.out hx125_6).trans hx125_6
                       replace hx125_7 := (hbc HB.out hx125_7).trans hx125_7
                       replace p125 := eq_true p125
                       replace q125 := eq_true q125
                       go_wp2
                       repeat (go_quiet (fail); try go_wp2)
                       go_meet
                       case rel => exact ⟨_, (false), (by first | rfl | (simp; done) | (simp [*]; done) | (simp; unfold wrap64; omega)), H', ⟨by have := HJ2.out; have := HK2.out; have := HJ7.out; have := HJ10.out; have := HJ13.out; have := HJ18.out; have := HJ22.out; have := HJ31.out; first | omega | exact Nat.le_refl _⟩, ⟨by (with_reducible repeat (first | apply Kd.R_alloc | apply Kd.R_drewN | apply Kd.R_drew)); exact HO_5.out⟩, ⟨by (with_reducible repeat (first | refine z14q ?_ _ | refine z18q ?_ | refine z12q ?_ _)); exact BK120.out⟩, ⟨by (with_reducible repeat (first | refine z14q ?_ _ | refine z18q ?_ | refine z12q ?_ _)); exact BK121.out⟩, ⟨by repeat (first | (with_reducible first | exact HB.out | apply z7q | apply z3q | apply z4q | refine z11q ?_ GE120.out | refine z11q ?_ GE121.out) | exact HB.out)⟩⟩
                     ·rw [if_neg c40] at H
                      exact absurd H (by simp)
                    ·rw [if_neg c39] at H
                     have c39b0 : decide (x7_2 < (l1.length : Int)) = false := decide_eq_false c39
                     clear c39
                     (first | rw [c39b0] | (simp only [i64_w, i32_w]; rw [c39b0]) | skip)
                     have H' := Aside0.mk H
                     clear H
                     go_wp2
                     repeat (go_quiet (fail); try go_wp2)
                     go_meet
                     case rel => exact ⟨_, (false), (by first | rfl | (simp; done) | (simp [*]; done) | (simp; unfold wrap64; omega)), H', ⟨by have := HJ2.out; have := HK2.out; have := HJ7.out; have := HJ10.out; have := HJ13.out; have := HJ18.out; have := HJ22.out; have := HJ31.out; first | omega | exact Nat.le_refl _⟩, ⟨by (with_reducible repeat (first | apply Kd.R_alloc | apply Kd.R_drewN | apply Kd.R_drew)); exact HO_5.out⟩, ⟨by (with_reducible repeat (first | refine z14q ?_ _ | refine z18q ?_ | refine z12q ?_ _)); exact BK120.out⟩, ⟨by (with_reducible repeat (first | refine z14q ?_ _ | refine z18q ?_ | refine z12q ?_ _)); exact BK121.out⟩, ⟨by repeat (first | (with_reducible first | exact HB.out | apply z7q | apply z3q | apply z4q | refine z11q ?_ GE120.out | refine z11q ?_ GE121.out) | exact HB.out)⟩⟩
                   case rest =>
                    clear HC38
                    try clear c1
                    try clear p1
                    try clear q1
                    try clear hx1
                    try clear c2
                    try clear p2
                    try clear c3
                    try clear c4
                    try clear c5
                    try clear p6
                    try clear c7
                    try clear c9
                    try clear c9b0
                    try clear c10
                    try clear p11
                    try clear q11
                    try clear hx11
                    try clear c12
                    try clear c12b0
                    try clear p12
                    try clear q12
                    try clear hx12
                    try clear c13
                    try clear c13b0
                    try clear c15
                    try clear c15b0
                    try clear c16
                    try clear c16b0
                    try clear c16b1
                    try clear c17
                    try clear c17b0
                    try clear c20
                    try clear c21
                    try clear c21b0
                    try clear c22
                    try clear c22b0
                    try clear c27
                    try clear c29
                    try clear c29b0
                    try clear c30
                    try clear c30b0
                    try clear c31
                    try clear c31b0
                    try clear c31b1
                    try clear c33
                    try clear c34
                    try clear c34b0
                    try clear c35
                    try clear c35b0
                    try clear c36
                    try clear c39
                    try clear c39b0
                    try clear c40
                    try clear c40b0
                    try clear c41
                    try clear c41b0
                    try clear c41b1
                    try clear hcz25_0
                    try clear hcz25_1
                    try clear hcz25_2
                    try clear hcz25_3
                    try clear hcz25_4
                    try clear hcz25_5
                    try clear hcz25_6
                    try clear hcz25_7
                    try clear hcz28_0
                    try clear hcz28_1
                    try clear hcz28_2
                    try clear hcz28_3
                    try clear hcz28_4
                    try clear hcz28_5
                    try clear hcz28_6
                    try clear hcz28_7
                    try clear hcz37_0
                    try clear hcz37_1
                    try clear hcz37_2
                    try clear hcz37_3
                    try clear hcz37_4
                    try clear hcz37_5
                    try clear hcz37_6
                    try clear hcz37_7
                    try clear hfz25_0
                    try clear hfz25_1
                    try clear hfz25_2
                    try clear hfz25_3
                    try clear hfz25_4
                    try clear hfz25_5
                    try clear hfz25_6
                    try clear hfz25_7
                    try clear hfz28_0
                    try clear hfz28_1
                    try clear hfz28_2
                    try clear hfz28_3
                    try clear hfz28_4
                    try clear hfz28_5
                    try clear hfz28_6
                    try clear hfz28_7
                    try clear hfz37_0
                    try clear hfz37_1
                    try clear hfz37_2
                    try clear hfz37_3
                    try clear hfz37_4
                    try clear hfz37_5
                    try clear hfz37_6
                    try clear hfz37_7
                    try clear hx113_0
                    try clear hx113_1
                    try clear hx113_2
                    try clear hx113_3
                    try clear hx113_4
                    try clear hx113_5
                    try clear hx113_6
                    try clear hx113_7
                    try clear hx114_0
                    try clear hx114_1
                    try clear hx114_2
                    try clear hx114_3
                    try clear hx114_4
                    try clear hx114_5
                    try clear hx114_6
                    try clear hx114_7
                    try clear hx115_0
                    try clear hx115_1
                    try clear hx115_2
                    try clear hx115_3
                    try clear hx115_4
                    try clear hx115_5
                    try clear hx115_6
                    try clear hx115_7
                    try clear hx116_0
                    try clear hx116_1
                    try clear hx116_2
                    try clear hx116_3
                    try clear hx116_4
                    try clear hx116_5
                    try clear hx116_6
                    try clear hx116_7
                    try clear hx118_0
                    try clear hx118_1
                    try clear hx118_2
                    try clear hx118_3
                    try clear hx118_4
                    try clear hx118_5
                    try clear hx118_6
                    try clear hx118_7
                    try clear hx119_0
                    try clear hx119_1
                    try clear hx119_2
                    try clear hx119_3
                    try clear hx119_4
                    try clear hx119_5
                    try clear hx119_6
                    try clear hx119_7
                    try clear hx122_0
                    try clear hx122_1
                    try clear hx122_2
                    try clear hx122_3
                    try clear hx122_4
                    try clear hx122_5
                    try clear hx122_6
                    try clear hx122_7
                    try clear hx123_0
                    try clear hx123_1
                    try clear hx123_2
                    try clear hx123_3
                    try clear hx123_4
                    try clear hx123_5
                    try clear hx123_6
                    try clear hx123_7
                    try clear hx124_0
                    try clear hx124_1
                    try clear hx124_2
                    try clear hx124_3
                    try clear hx124_4
                    try clear hx124_5
                    try clear hx124_6
                    try clear hx124_7
                    try clear hx125_0
                    try clear hx125_1
                    try clear hx125_2
                    try clear hx125_3
                    try clear hx125_4
                    try clear hx125_5
                    try clear hx125_6
                    try clear hx125_7
                    try clear hx126_0
                    try clear hx126_1
                    try clear hx126_2
                    try clear hx126_3
                    try clear hx126_4
                    try clear hx126_5
                    try clear hx126_6
                    try clear hx126_7
                    try clear p1
                    try clear p11
                    try clear p113
                    try clear p114
                    try clear p115
                    try clear p116
                    try clear p118
                    try clear p119
                    try clear p12
                    try clear p122
                    try clear p123
                    try clear p124
                    try clear p125
                    try clear p126
                    try clear p2
                    try clear p6
                    try clear q1
                    try clear q11
                    try clear q113
                    try clear q114
                    try clear q115
                    try clear q116
                    try clear q118
                    try clear q119
                    try clear q12
                    try clear q122
                    try clear q123
                    try clear q124
                    try clear q125
                    try clear q126
                    obtain ⟨kq, x134_37, rfl, HA, HJ37, HO_5, BK120, BK121, HB⟩ := hcut
                    cases kq with
                    | zero => exact absurd HA.out (by simp [spec_Differ.j8])
                    | succ kj37 =>
                     have H := HA.out
                     clear HA
                     simp only [spec_Differ.j8] at H
                     by_cases c42 : x134_37 = true
                     ·subst c42
                      have H1 : (if 0 ≤ x7_2 then (if x7_2 < (l1.length : Int) then (if (!(x121000_31 == ((rd_T107 l1 x7_2).f0)) || (!(x121001_31 == ((rd_T107 l1 x7_2).f1)) || ((!(x121002_31 == ((rd_T107 l1 x7_2).f2.f0)) || ((!(x121003_31 == ((rd_T107 l1 x7_2).f2.f1.f0)) || (!(x121004_31 == ((rd_T107 l1 x7_2).f2.f1.f1)) || (!(x121005_31 == ((rd_T107 l1 x7_2).f2.f1.f2))))) || (!(x121006_31.toList == (((rd_T107 l1 x7_2).f2.f2).toList))))) || (!(x121007_31 == ((rd_T107 l1 x7_2).f3)))))) = true then (if x5_2.length < 1954687338268 then (spec_Differ.l0 kj37 l0 l1 (x5_2 ++ [(⟨(rd_T107 l1 x7_2).f0, (rd_T107 l1 x7_2).f1, (⟨(rd_T107 l1 x7_2).f2.f0, (⟨(rd_T107 l1 x7_2).f2.f1.f0, (rd_T107 l1 x7_2).f2.f1.f1, (rd_T107 l1 x7_2).f2.f1.f2⟩ : S103), (rd_T107 l1 x7_2).f2.f2⟩ : S105), (rd_T107 l1 x7_2).f3⟩ : S107)]) x6_31 (wrap64 (x7_2 + 1))) else (none)) else (spec_Differ.l0 kj37 l0 l1 x5_2 x6_31 (wrap64 (x7_2 + 1)))) else (none)) else (none)) = some r := by rw [if_pos rfl] at H; exact H
                      clear H
                      have H := H1
                      clear H1
                      by_cases c43 : 0 ≤ x7_2
                      ·rw [if_pos c43] at H
                       have c43b0 : decide (0 ≤ x7_2) = true := decide_eq_true c43
                       clear c43
                       by_cases c44 : x7_2 < (l1.length : Int)
                       ·rw [if_pos c44] at H
                        have c44b0 : decide (x7_2 < (l1.length : Int)) = true := decide_eq_true c44
                        clear c44
                        by_cases c45 : (!(x121000_31 == ((rd_T107 l1 x7_2).f0)) || (!(x121001_31 == ((rd_T107 l1 x7_2).f1)) || ((!(x121002_31 == ((rd_T107 l1 x7_2).f2.f0)) || ((!(x121003_31 == ((rd_T107 l1 x7_2).f2.f1.f0)) || (!(x121004_31 == ((rd_T107 l1 x7_2).f2.f1.f1)) || (!(x121005_31 == ((rd_T107 l1 x7_2).f2.f1.f2))))) || (!(x121006_31.toList == (((rd_T107 l1 x7_2).f2.f2).toList))))) || (!(x121007_31 == ((rd_T107 l1 x7_2).f3)))))) = true
                        ·rw [if_pos c45] at H
                         have c45b0 : (!(x121000_31 == ((rd_T107 l1 x7_2).f0)) || (!(x121001_31 == ((rd_T107 l1 x7_2).f1)) || ((!(x121002_31 == ((rd_T107 l1 x7_2).f2.f0)) || ((!(x121003_31 == ((rd_T107 l1 x7_2).f2.f1.f0)) || (!(x121004_31 == ((rd_T107 l1 x7_2).f2.f1.f1)) || (!(x121005_31 == ((rd_T107 l1 x7_2).f2.f1.f2))))) || (!(x121006_31.toList == (((rd_T107 l1 x7_2).f2.f2).toList))))) || (!(x121007_31 == ((rd_T107 l1 x7_2).f3)))))) = true := c45
                         clear c45
                         by_cases c46 : x5_2.length < 1954687338268
                         ·skip
                          rw [if_pos c46] at H
                          have LMc46 := Aside0.mk c46
                          clear c46
                          obtain ⟨y128, hy128⟩ : ∃ y_ : List (S107), y_ = (x5_2 ++ [(⟨(rd_T107 l1 x7_2).f0, (rd_T107 l1 x7_2).f1, (⟨(rd_T107 l1 x7_2).f2.f0, (⟨(rd_T107 l1 x7_2).f2.f1.f0, (rd_T107 l1 x7_2).f2.f1.f1, (rd_T107 l1 x7_2).f2.f1.f2⟩ : S103), (rd_T107 l1 x7_2).f2.f2⟩ : S105), (rd_T107 l1 x7_2).f3⟩ : S107)]) := ⟨_, rfl⟩
                          replace H : (spec_Differ.l0 kj37 l0 l1 y128 x6_31 (wrap64 (x7_2 + 1))) = some r := by first | (rw [hy128]; with_reducible exact H) | (have H2_ := (Option.bind_some _ _).symm.trans H; rw [hy128]; with_reducible exact H2_) | (have H2_ := (Option.bind_some _ _).symm.trans H; with_reducible exact H2_) | with_reducible exact H | (rw [hy128]; exact H) | exact H
                          have Ny128 := Aside0.mk hy128
                          clear hy128
                          have H' := Aside0.mk H
                          clear H
                          have p127 : 0 ≤ (x7_2 : Int) := of_decide_eq_true (by first | (with_reducible assumption) | assumption)
                          have q127 : x7_2 < (l1.length : Int) := of_decide_eq_true (by first | (with_reducible assumption) | assumption)
                          obtain ⟨ad127, e127, hx127_0, hx127_1, hx127_2, hx127_3, hx127_4, hx127_5, hx127_6, hx127_7⟩ := at_T107 HR1.out x7_2 p127 q127
                          cases e127
                          replace hx127_0 := (hbc HB.out hx127_0).trans hx127_0
                          replace hx127_1 := (hbc HB.out hx127_1).trans hx127_1
                          replace hx127_2 := (hbc HB.out hx127_2).trans hx127_2
                          replace hx127_3 := (hbc HB.out hx127_3).trans hx127_3
                          replace hx127_4 := (hbc HB.out hx127_4).trans hx127_4
                          replace hx127_5 := (hbc HB.out hx127_5).trans hx127_5
                          replace hx127_6 := (hbc HB.out hx127_6).trans hx127_6
                          replace hx127_7 := (hbc HB.out hx127_7).trans hx127_7
                          replace p127 := eq_true p127
                          replace q127 := eq_true q127
                          have hnb47 := NB121_120.out
                          have hnc47 := NB120_121.out
                          have hcz48_0 : wc.cell? ⟨gb121, 0, none⟩ = some (.int .i64 x8_18) := (z1q BK121.out 0).trans rfl
                          have hcz48_1 : wc.cell? ⟨gb121, 1, none⟩ = some (.int .i64 x9_18) := (z1q BK121.out 1).trans rfl
                          have hcz48_2 : wc.cell? ⟨gb121, 2, none⟩ = some (.int .i64 0) := (z1q BK121.out 2).trans rfl
                          have hcz48_3 : wc.cell? ⟨gb121, 3, none⟩ = some (.bool false) := (z1q BK121.out 3).trans rfl
                          have hcz48_4 : wc.cell? ⟨gb121, 4, none⟩ = some (.int .i64 0) := (z1q BK121.out 4).trans rfl
                          have hcz48_5 : wc.cell? ⟨gb121, 5, none⟩ = some (.int .i64 0) := (z1q BK121.out 5).trans rfl
                          have hcz48_6 : wc.cell? ⟨gb121, 6, none⟩ = some (.string (⟨#[]⟩ : ByteArray)) := (z1q BK121.out 6).trans rfl
                          have hcz48_7 : wc.cell? ⟨gb121, 7, none⟩ = some (.bool false) := (z1q BK121.out 7).trans rfl
                          have hfz48_0 := z0q BK121.out 0
                          have hfz48_1 := z0q BK121.out 1
                          have hfz48_2 := z0q BK121.out 2
                          have hfz48_3 := z0q BK121.out 3
                          have hfz48_4 := z0q BK121.out 4
                          have hfz48_5 := z0q BK121.out 5
                          have hfz48_6 := z0q BK121.out 6
                          have hfz48_7 := z0q BK121.out 7
                          have hcz49_0 : wc.cell? ⟨gb120, 0, none⟩ = some (.int .i64 x121000_31) := (z1q BK120.out 0).trans rfl
                          have hcz49_1 : wc.cell? ⟨gb120, 1, none⟩ = some (.int .i64 x121001_31) := (z1q BK120.out 1).trans rfl
                          have hcz49_2 : wc.cell? ⟨gb120, 2, none⟩ = some (.int .i64 x121002_31) := (z1q BK120.out 2).trans rfl
                          have hcz49_3 : wc.cell? ⟨gb120, 3, none⟩ = some (.bool x121003_31) := (z1q BK120.out 3).trans rfl
                          have hcz49_4 : wc.cell? ⟨gb120, 4, none⟩ = some (.int .i64 x121004_31) := (z1q BK120.out 4).trans rfl
                          have hcz49_5 : wc.cell? ⟨gb120, 5, none⟩ = some (.int .i64 x121005_31) := (z1q BK120.out 5).trans rfl
                          have hcz49_6 : wc.cell? ⟨gb120, 6, none⟩ = some (.string x121006_31) := (z1q BK120.out 6).trans rfl
                          have hcz49_7 : wc.cell? ⟨gb120, 7, none⟩ = some (.bool x121007_31) := (z1q BK120.out 7).trans rfl
                          have hfz49_0 := z0q BK120.out 0
                          have hfz49_1 := z0q BK120.out 1
                          have hfz49_2 := z0q BK120.out 2
                          have hfz49_3 := z0q BK120.out 3
                          have hfz49_4 := z0q BK120.out 4
                          have hfz49_5 := z0q BK120.out 5
                          have hfz49_6 := z0q BK120.out 6
                          have hfz49_7 := z0q BK120.out 7
                          go_wp2_with (first | ((with_reducible refine gate_builtin (b := .append) (xs := #[.tmp 144, .tmp 146]) rfl ?_); (try (refine gate_guard (by rfl) ?_; dsimp only)); at_builtin; refine Kd.R_append k107 (w0 := w) w.heap.size rfl (.tmp 144) (.tmp 146) 60 107 (.agg #[(.int .i64 0), (.int .i64 0), (.int .i64 0), (.bool false), (.int .i64 0), (.int .i64 0), (.string ⟨#[]⟩), (.bool false)]) 72 rfl Try.underlying60 info107 rfl (by decide) (by omega) u5 x5_2 (⟨(rd_T107 l1 x7_2).f0, (rd_T107 l1 x7_2).f1, (⟨(rd_T107 l1 x7_2).f2.f0, (⟨(rd_T107 l1 x7_2).f2.f1.f0, (rd_T107 l1 x7_2).f2.f1.f1, (rd_T107 l1 x7_2).f2.f1.f2⟩ : S103), (rd_T107 l1 x7_2).f2.f2⟩ : S105), (rd_T107 l1 x7_2).f3⟩ : S107) [.int .i64 ((rd_T107 l1 x7_2).f0), .int .i64 ((rd_T107 l1 x7_2).f1), .int .i64 ((rd_T107 l1 x7_2).f2.f0), .bool ((rd_T107 l1 x7_2).f2.f1.f0), .int .i64 ((rd_T107 l1 x7_2).f2.f1.f1), .int .i64 ((rd_T107 l1 x7_2).f2.f1.f2), .string ((rd_T107 l1 x7_2).f2.f2), .bool ((rd_T107 l1 x7_2).f3)] (fun k_ => k_ ≠ gb120 ∧ k_ ≠ gb121) (fun _ => False) rfl (by first | (go_simp; done) | (go_simp; rfl)) ?aP (fun _ hk => hk.elim) ?aF ?aO ?aB ?aS ?aL ?_; (case aP => exact k107_mkM _ _ _ (⟨(rd_T107 l1 x7_2).f0, (rd_T107 l1 x7_2).f1, (⟨(rd_T107 l1 x7_2).f2.f0, (⟨(rd_T107 l1 x7_2).f2.f1.f0, (rd_T107 l1 x7_2).f2.f1.f1, (rd_T107 l1 x7_2).f2.f1.f2⟩ : S103), (rd_T107 l1 x7_2).f2.f2⟩ : S105), (rd_T107 l1 x7_2).f3⟩ : S107)); (case aB => exact (ibh HB.out)); (case aF => exact (fun k_ hk => ⟨Kd.freshB (g := gb120) (o := .cells #[.int .i64 x121000_31, .int .i64 x121001_31, .int .i64 x121002_31, .bool x121003_31, .int .i64 x121004_31, .int .i64 x121005_31, .string x121006_31, .bool x121007_31] 107 (0, 0)) (cy BK120.out) k_ hk, Kd.freshB (g := gb121) (o := .cells #[.int .i64 ((rd_T107 l1 x7_2).f0), .int .i64 ((rd_T107 l1 x7_2).f1), .int .i64 ((rd_T107 l1 x7_2).f2.f0), .bool ((rd_T107 l1 x7_2).f2.f1.f0), .int .i64 ((rd_T107 l1 x7_2).f2.f1.f1), .int .i64 ((rd_T107 l1 x7_2).f2.f1.f2), .string ((rd_T107 l1 x7_2).f2.f2), .bool ((rd_T107 l1 x7_2).f3)] 107 (0, 0)) (by refine cz ?_; refine z10q (cs := #[.int .i64 ((rd_T107 l1 x7_2).f0), .int .i64 ((rd_T107 l1 x7_2).f1), .int .i64 ((rd_T107 l1 x7_2).f2.f0), .bool ((rd_T107 l1 x7_2).f2.f1.f0), .int .i64 ((rd_T107 l1 x7_2).f2.f1.f1), .int .i64 ((rd_T107 l1 x7_2).f2.f1.f2), .string ((rd_T107 l1 x7_2).f2.f2), .bool false]) ?_ 7 _ rfl; refine cz ?_; refine z10q (cs := #[.int .i64 ((rd_T107 l1 x7_2).f0), .int .i64 ((rd_T107 l1 x7_2).f1), .int .i64 ((rd_T107 l1 x7_2).f2.f0), .bool ((rd_T107 l1 x7_2).f2.f1.f0), .int .i64 ((rd_T107 l1 x7_2).f2.f1.f1), .int .i64 ((rd_T107 l1 x7_2).f2.f1.f2), .string (⟨#[]⟩ : ByteArray), .bool false]) ?_ 6 _ rfl; refine cz ?_; refine z10q (cs := #[.int .i64 ((rd_T107 l1 x7_2).f0), .int .i64 ((rd_T107 l1 x7_2).f1), .int .i64 ((rd_T107 l1 x7_2).f2.f0), .bool ((rd_T107 l1 x7_2).f2.f1.f0), .int .i64 ((rd_T107 l1 x7_2).f2.f1.f1), .int .i64 0, .string (⟨#[]⟩ : ByteArray), .bool false]) ?_ 5 _ rfl; refine cz ?_; refine z10q (cs := #[.int .i64 ((rd_T107 l1 x7_2).f0), .int .i64 ((rd_T107 l1 x7_2).f1), .int .i64 ((rd_T107 l1 x7_2).f2.f0), .bool ((rd_T107 l1 x7_2).f2.f1.f0), .int .i64 0, .int .i64 0, .string (⟨#[]⟩ : ByteArray), .bool false]) ?_ 4 _ rfl; refine cz ?_; refine z10q (cs := #[.int .i64 ((rd_T107 l1 x7_2).f0), .int .i64 ((rd_T107 l1 x7_2).f1), .int .i64 ((rd_T107 l1 x7_2).f2.f0), .bool false, .int .i64 0, .int .i64 0, .string (⟨#[]⟩ : ByteArray), .bool false]) ?_ 3 _ rfl; refine cz ?_; refine z10q (cs := #[.int .i64 ((rd_T107 l1 x7_2).f0), .int .i64 ((rd_T107 l1 x7_2).f1), .int .i64 0, .bool false, .int .i64 0, .int .i64 0, .string (⟨#[]⟩ : ByteArray), .bool false]) ?_ 2 _ rfl; refine cz ?_; refine z10q (cs := #[.int .i64 ((rd_T107 l1 x7_2).f0), .int .i64 x9_18, .int .i64 0, .bool false, .int .i64 0, .int .i64 0, .string (⟨#[]⟩ : ByteArray), .bool false]) ?_ 1 _ rfl; refine cz ?_; refine z10q (cs := #[.int .i64 x8_18, .int .i64 x9_18, .int .i64 0, .bool false, .int .i64 0, .int .i64 0, .string (⟨#[]⟩ : ByteArray), .bool false]) ?_ 0 _ rfl; exact cy BK121.out) k_ hk⟩)); (case aO => exact (by (with_reducible repeat (first | apply Kd.R_alloc | apply Kd.R_drewN | apply Kd.R_drew)); exact Kd.R_mono (Kd.R_far (p := ⟨gb121, 7, none⟩) (Kd.R_far (p := ⟨gb121, 6, none⟩) (Kd.R_far (p := ⟨gb121, 5, none⟩) (Kd.R_far (p := ⟨gb121, 4, none⟩) (Kd.R_far (p := ⟨gb121, 3, none⟩) (Kd.R_far (p := ⟨gb121, 2, none⟩) (Kd.R_far (p := ⟨gb121, 1, none⟩) (Kd.R_far (p := ⟨gb121, 0, none⟩) (Kd.R_mono HO_5.out (fun k_ hk => (⟨hk, hk.2⟩ : _ ∧ k_ ≠ gb121))) (fun _ hk => hk.2) (.int .i64 ((rd_T107 l1 x7_2).f0))) (fun _ hk => hk.2) (.int .i64 ((rd_T107 l1 x7_2).f1))) (fun _ hk => hk.2) (.int .i64 ((rd_T107 l1 x7_2).f2.f0))) (fun _ hk => hk.2) (.bool ((rd_T107 l1 x7_2).f2.f1.f0))) (fun _ hk => hk.2) (.int .i64 ((rd_T107 l1 x7_2).f2.f1.f1))) (fun _ hk => hk.2) (.int .i64 ((rd_T107 l1 x7_2).f2.f1.f2))) (fun _ hk => hk.2) (.string ((rd_T107 l1 x7_2).f2.f2))) (fun _ hk => hk.2) (.bool ((rd_T107 l1 x7_2).f3))) (fun _ hk => ⟨hk.1.1, hk.1.2⟩))); (case aS => exact (z5q (ibh HB.out))); (case aL => have := LMc46.out; omega); intro v129 w50 ho hb hg hat; rw [← Ny128.out] at ho; have n0_ := Aside0.mk (blk_grown (g := gb120) (o := .cells #[.int .i64 x121000_31, .int .i64 x121001_31, .int .i64 x121002_31, .bool x121003_31, .int .i64 x121004_31, .int .i64 x121005_31, .string x121006_31, .bool x121007_31] 107 (0, 0)) (cy BK120.out) hg (Kd.R_away HO_5.out (fun _ hk => hk.1))); have n1_ := Aside0.mk (blk_grown (g := gb121) (o := .cells #[.int .i64 ((rd_T107 l1 x7_2).f0), .int .i64 ((rd_T107 l1 x7_2).f1), .int .i64 ((rd_T107 l1 x7_2).f2.f0), .bool ((rd_T107 l1 x7_2).f2.f1.f0), .int .i64 ((rd_T107 l1 x7_2).f2.f1.f1), .int .i64 ((rd_T107 l1 x7_2).f2.f1.f2), .string ((rd_T107 l1 x7_2).f2.f2), .bool ((rd_T107 l1 x7_2).f3)] 107 (0, 0)) (by refine cz ?_; refine z10q (cs := #[.int .i64 ((rd_T107 l1 x7_2).f0), .int .i64 ((rd_T107 l1 x7_2).f1), .int .i64 ((rd_T107 l1 x7_2).f2.f0), .bool ((rd_T107 l1 x7_2).f2.f1.f0), .int .i64 ((rd_T107 l1 x7_2).f2.f1.f1), .int .i64 ((rd_T107 l1 x7_2).f2.f1.f2), .string ((rd_T107 l1 x7_2).f2.f2), .bool false]) ?_ 7 _ rfl; refine cz ?_; refine z10q (cs := #[.int .i64 ((rd_T107 l1 x7_2).f0), .int .i64 ((rd_T107 l1 x7_2).f1), .int .i64 ((rd_T107 l1 x7_2).f2.f0), .bool ((rd_T107 l1 x7_2).f2.f1.f0), .int .i64 ((rd_T107 l1 x7_2).f2.f1.f1), .int .i64 ((rd_T107 l1 x7_2).f2.f1.f2), .string (⟨#[]⟩ : ByteArray), .bool false]) ?_ 6 _ rfl; refine cz ?_; refine z10q (cs := #[.int .i64 ((rd_T107 l1 x7_2).f0), .int .i64 ((rd_T107 l1 x7_2).f1), .int .i64 ((rd_T107 l1 x7_2).f2.f0), .bool ((rd_T107 l1 x7_2).f2.f1.f0), .int .i64 ((rd_T107 l1 x7_2).f2.f1.f1), .int .i64 0, .string (⟨#[]⟩ : ByteArray), .bool false]) ?_ 5 _ rfl; refine cz ?_; refine z10q (cs := #[.int .i64 ((rd_T107 l1 x7_2).f0), .int .i64 ((rd_T107 l1 x7_2).f1), .int .i64 ((rd_T107 l1 x7_2).f2.f0), .bool ((rd_T107 l1 x7_2).f2.f1.f0), .int .i64 0, .int .i64 0, .string (⟨#[]⟩ : ByteArray), .bool false]) ?_ 4 _ rfl; refine cz ?_; refine z10q (cs := #[.int .i64 ((rd_T107 l1 x7_2).f0), .int .i64 ((rd_T107 l1 x7_2).f1), .int .i64 ((rd_T107 l1 x7_2).f2.f0), .bool false, .int .i64 0, .int .i64 0, .string (⟨#[]⟩ : ByteArray), .bool false]) ?_ 3 _ rfl; refine cz ?_; refine z10q (cs := #[.int .i64 ((rd_T107 l1 x7_2).f0), .int .i64 ((rd_T107 l1 x7_2).f1), .int .i64 0, .bool false, .int .i64 0, .int .i64 0, .string (⟨#[]⟩ : ByteArray), .bool false]) ?_ 2 _ rfl; refine cz ?_; refine z10q (cs := #[.int .i64 ((rd_T107 l1 x7_2).f0), .int .i64 x9_18, .int .i64 0, .bool false, .int .i64 0, .int .i64 0, .string (⟨#[]⟩ : ByteArray), .bool false]) ?_ 1 _ rfl; refine cz ?_; refine z10q (cs := #[.int .i64 x8_18, .int .i64 x9_18, .int .i64 0, .bool false, .int .i64 0, .int .i64 0, .string (⟨#[]⟩ : ByteArray), .bool false]) ?_ 0 _ rfl; exact cy BK121.out) hg (Kd.R_away HO_5.out (fun _ hk => hk.2))); have n2_ := Aside0.mk (hb); have n3_ := Aside0.mk (ho); clear BK120; clear BK121; clear HB; clear HO_5; have BK120 := n0_; have BK121 := n1_; have HB := n2_; have HO130 := n3_; clear n0_ n1_ n2_ n3_; clear ho hb hg hat))
                          repeat (go_quiet (first | ((with_reducible refine gate_builtin (b := .append) (xs := #[.tmp 144, .tmp 146]) rfl ?_); (try (refine gate_guard (by rfl) ?_; dsimp only)); at_builtin; refine Kd.R_append k107 (w0 := w) w.heap.size rfl (.tmp 144) (.tmp 146) 60 107 (.agg #[(.int .i64 0), (.int .i64 0), (.int .i64 0), (.bool false), (.int .i64 0), (.int .i64 0), (.string ⟨#[]⟩), (.bool false)]) 72 rfl Try.underlying60 info107 rfl (by decide) (by omega) u5 x5_2 (⟨(rd_T107 l1 x7_2).f0, (rd_T107 l1 x7_2).f1, (⟨(rd_T107 l1 x7_2).f2.f0, (⟨(rd_T107 l1 x7_2).f2.f1.f0, (rd_T107 l1 x7_2).f2.f1.f1, (rd_T107 l1 x7_2).f2.f1.f2⟩ : S103), (rd_T107 l1 x7_2).f2.f2⟩ : S105), (rd_T107 l1 x7_2).f3⟩ : S107) [.int .i64 ((rd_T107 l1 x7_2).f0), .int .i64 ((rd_T107 l1 x7_2).f1), .int .i64 ((rd_T107 l1 x7_2).f2.f0), .bool ((rd_T107 l1 x7_2).f2.f1.f0), .int .i64 ((rd_T107 l1 x7_2).f2.f1.f1), .int .i64 ((rd_T107 l1 x7_2).f2.f1.f2), .string ((rd_T107 l1 x7_2).f2.f2), .bool ((rd_T107 l1 x7_2).f3)] (fun k_ => k_ ≠ gb120 ∧ k_ ≠ gb121) (fun _ => False) rfl (by first | (go_simp; done) | (go_simp; rfl)) ?aP (fun _ hk => hk.elim) ?aF ?aO ?aB ?aS ?aL ?_; (case aP => exact k107_mkM _ _ _ (⟨(rd_T107 l1 x7_2).f0, (rd_T107 l1 x7_2).f1, (⟨(rd_T107 l1 x7_2).f2.f0, (⟨(rd_T107 l1 x7_2).f2.f1.f0, (rd_T107 l1 x7_2).f2.f1.f1, (rd_T107 l1 x7_2).f2.f1.f2⟩ : S103), (rd_T107 l1 x7_2).f2.f2⟩ : S105), (rd_T107 l1 x7_2).f3⟩ : S107)); (case aB => exact (ibh HB.out)); (case aF => exact (fun k_ hk => ⟨Kd.freshB (g := gb120) (o := .cells #[.int .i64 x121000_31, .int .i64 x121001_31, .int .i64 x121002_31, .bool x121003_31, .int .i64 x121004_31, .int .i64 x121005_31, .string x121006_31, .bool x121007_31] 107 (0, 0)) (cy BK120.out) k_ hk, Kd.freshB (g := gb121) (o := .cells #[.int .i64 ((rd_T107 l1 x7_2).f0), .int .i64 ((rd_T107 l1 x7_2).f1), .int .i64 ((rd_T107 l1 x7_2).f2.f0), .bool ((rd_T107 l1 x7_2).f2.f1.f0), .int .i64 ((rd_T107 l1 x7_2).f2.f1.f1), .int .i64 ((rd_T107 l1 x7_2).f2.f1.f2), .string ((rd_T107 l1 x7_2).f2.f2), .bool ((rd_T107 l1 x7_2).f3)] 107 (0, 0)) (by refine cz ?_; refine z10q (cs := #[.int .i64 ((rd_T107 l1 x7_2).f0), .int .i64 ((rd_T107 l1 x7_2).f1), .int .i64 ((rd_T107 l1 x7_2).f2.f0), .bool ((rd_T107 l1 x7_2).f2.f1.f0), .int .i64 ((rd_T107 l1 x7_2).f2.f1.f1), .int .i64 ((rd_T107 l1 x7_2).f2.f1.f2), .string ((rd_T107 l1 x7_2).f2.f2), .bool false]) ?_ 7 _ rfl; refine cz ?_; refine z10q (cs := #[.int .i64 ((rd_T107 l1 x7_2).f0), .int .i64 ((rd_T107 l1 x7_2).f1), .int .i64 ((rd_T107 l1 x7_2).f2.f0), .bool ((rd_T107 l1 x7_2).f2.f1.f0), .int .i64 ((rd_T107 l1 x7_2).f2.f1.f1), .int .i64 ((rd_T107 l1 x7_2).f2.f1.f2), .string (⟨#[]⟩ : ByteArray), .bool false]) ?_ 6 _ rfl; refine cz ?_; refine z10q (cs := #[.int .i64 ((rd_T107 l1 x7_2).f0), .int .i64 ((rd_T107 l1 x7_2).f1), .int .i64 ((rd_T107 l1 x7_2).f2.f0), .bool ((rd_T107 l1 x7_2).f2.f1.f0), .int .i64 ((rd_T107 l1 x7_2).f2.f1.f1), .int .i64 0, .string (⟨#[]⟩ : ByteArray), .bool false]) ?_ 5 _ rfl; refine cz ?_; refine z10q (cs := #[.int .i64 ((rd_T107 l1 x7_2).f0), .int .i64 ((rd_T107 l1 x7_2).f1), .int .i64 ((rd_T107 l1 x7_2).f2.f0), .bool ((rd_T107 l1 x7_2).f2.f1.f0), .int .i64 0, .int .i64 0, .string (⟨#[]⟩ : ByteArray), .bool false]) ?_ 4 _ rfl; refine cz ?_; refine z10q (cs := #[.int .i64 ((rd_T107 l1 x7_2).f0), .int .i64 ((rd_T107 l1 x7_2).f1), .int .i64 ((rd_T107 l1 x7_2).f2.f0), .bool false, .int .i64 0, .int .i64 0, .string (⟨#[]⟩ : ByteArray), .bool false]) ?_ 3 _ rfl; refine cz ?_; refine z10q (cs := #[.int .i64 ((rd_T107 l1 x7_2).f0), .int .i64 ((rd_T107 l1 x7_2).f1), .int .i64 0, .bool false, .int .i64 0, .int .i64 0, .string (⟨#[]⟩ : ByteArray), .bool false]) ?_ 2 _ rfl; refine cz ?_; refine z10q (cs := #[.int .i64 ((rd_T107 l1 x7_2).f0), .int .i64 x9_18, .int .i64 0, .bool false, .int .i64 0, .int .i64 0, .string (⟨#[]⟩ : ByteArray), .bool false]) ?_ 1 _ rfl; refine cz ?_; refine z10q (cs := #[.int .i64 x8_18, .int .i64 x9_18, .int .i64 0, .bool false, .int .i64 0, .int .i64 0, .string (⟨#[]⟩ : ByteArray), .bool false]) ?_ 0 _ rfl; exact cy BK121.out) k_ hk⟩)); (case aO => exact (by (with_reducible repeat (first | apply Kd.R_alloc | apply Kd.R_drewN | apply Kd.R_drew)); exact Kd.R_mono (Kd.R_far (p := ⟨gb121, 7, none⟩) (Kd.R_far (p := ⟨gb121, 6, none⟩) (Kd.R_far (p := ⟨gb121, 5, none⟩) (Kd.R_far (p := ⟨gb121, 4, none⟩) (Kd.R_far (p := ⟨gb121, 3, none⟩) (Kd.R_far (p := ⟨gb121, 2, none⟩) (Kd.R_far (p := ⟨gb121, 1, none⟩) (Kd.R_far (p := ⟨gb121, 0, none⟩) (Kd.R_mono HO_5.out (fun k_ hk => (⟨hk, hk.2⟩ : _ ∧ k_ ≠ gb121))) (fun _ hk => hk.2) (.int .i64 ((rd_T107 l1 x7_2).f0))) (fun _ hk => hk.2) (.int .i64 ((rd_T107 l1 x7_2).f1))) (fun _ hk => hk.2) (.int .i64 ((rd_T107 l1 x7_2).f2.f0))) (fun _ hk => hk.2) (.bool ((rd_T107 l1 x7_2).f2.f1.f0))) (fun _ hk => hk.2) (.int .i64 ((rd_T107 l1 x7_2).f2.f1.f1))) (fun _ hk => hk.2) (.int .i64 ((rd_T107 l1 x7_2).f2.f1.f2))) (fun _ hk => hk.2) (.string ((rd_T107 l1 x7_2).f2.f2))) (fun _ hk => hk.2) (.bool ((rd_T107 l1 x7_2).f3))) (fun _ hk => ⟨hk.1.1, hk.1.2⟩))); (case aS => exact (z5q (ibh HB.out))); (case aL => have := LMc46.out; omega); intro v129 w50 ho hb hg hat; rw [← Ny128.out] at ho; have n0_ := Aside0.mk (blk_grown (g := gb120) (o := .cells #[.int .i64 x121000_31, .int .i64 x121001_31, .int .i64 x121002_31, .bool x121003_31, .int .i64 x121004_31, .int .i64 x121005_31, .string x121006_31, .bool x121007_31] 107 (0, 0)) (cy BK120.out) hg (Kd.R_away HO_5.out (fun _ hk => hk.1))); have n1_ := Aside0.mk (blk_grown (g := gb121) (o := .cells #[.int .i64 ((rd_T107 l1 x7_2).f0), .int .i64 ((rd_T107 l1 x7_2).f1), .int .i64 ((rd_T107 l1 x7_2).f2.f0), .bool ((rd_T107 l1 x7_2).f2.f1.f0), .int .i64 ((rd_T107 l1 x7_2).f2.f1.f1), .int .i64 ((rd_T107 l1 x7_2).f2.f1.f2), .string ((rd_T107 l1 x7_2).f2.f2), .bool ((rd_T107 l1 x7_2).f3)] 107 (0, 0)) (by refine cz ?_; refine z10q (cs := #[.int .i64 ((rd_T107 l1 x7_2).f0), .int .i64 ((rd_T107 l1 x7_2).f1), .int .i64 ((rd_T107 l1 x7_2).f2.f0), .bool ((rd_T107 l1 x7_2).f2.f1.f0), .int .i64 ((rd_T107 l1 x7_2).f2.f1.f1), .int .i64 ((rd_T107 l1 x7_2).f2.f1.f2), .string ((rd_T107 l1 x7_2).f2.f2), .bool false]) ?_ 7 _ rfl; refine cz ?_; refine z10q (cs := #[.int .i64 ((rd_T107 l1 x7_2).f0), .int .i64 ((rd_T107 l1 x7_2).f1), .int .i64 ((rd_T107 l1 x7_2).f2.f0), .bool ((rd_T107 l1 x7_2).f2.f1.f0), .int .i64 ((rd_T107 l1 x7_2).f2.f1.f1), .int .i64 ((rd_T107 l1 x7_2).f2.f1.f2), .string (⟨#[]⟩ : ByteArray), .bool false]) ?_ 6 _ rfl; refine cz ?_; refine z10q (cs := #[.int .i64 ((rd_T107 l1 x7_2).f0), .int .i64 ((rd_T107 l1 x7_2).f1), .int .i64 ((rd_T107 l1 x7_2).f2.f0), .bool ((rd_T107 l1 x7_2).f2.f1.f0), .int .i64 ((rd_T107 l1 x7_2).f2.f1.f1), .int .i64 0, .string (⟨#[]⟩ : ByteArray), .bool false]) ?_ 5 _ rfl; refine cz ?_; refine z10q (cs := #[.int .i64 ((rd_T107 l1 x7_2).f0), .int .i64 ((rd_T107 l1 x7_2).f1), .int .i64 ((rd_T107 l1 x7_2).f2.f0), .bool ((rd_T107 l1 x7_2).f2.f1.f0), .int .i64 0, .int .i64 0, .string (⟨#[]⟩ : ByteArray), .bool false]) ?_ 4 _ rfl; refine cz ?_; refine z10q (cs := #[.int .i64 ((rd_T107 l1 x7_2).f0), .int .i64 ((rd_T107 l1 x7_2).f1), .int .i64 ((rd_T107 l1 x7_2).f2.f0), .bool false, .int .i64 0, .int .i64 0, .string (⟨#[]⟩ : ByteArray), .bool false]) ?_ 3 _ rfl; refine cz ?_; refine z10q (cs := #[.int .i64 ((rd_T107 l1 x7_2).f0), .int .i64 ((rd_T107 l1 x7_2).f1), .int .i64 0, .bool false, .int .i64 0, .int .i64 0, .string (⟨#[]⟩ : ByteArray), .bool false]) ?_ 2 _ rfl; refine cz ?_; refine z10q (cs := #[.int .i64 ((rd_T107 l1 x7_2).f0), .int .i64 x9_18, .int .i64 0, .bool false, .int .i64 0, .int .i64 0, .string (⟨#[]⟩ : ByteArray), .bool false]) ?_ 1 _ rfl; refine cz ?_; refine z10q (cs := #[.int .i64 x8_18, .int .i64 x9_18, .int .i64 0, .bool false, .int .i64 0, .int .i64 0, .string (⟨#[]⟩ : ByteArray), .bool false]) ?_ 0 _ rfl; exact cy BK121.out) hg (Kd.R_away HO_5.out (fun _ hk => hk.2))); have n2_ := Aside0.mk (hb); have n3_ := Aside0.mk (ho); clear BK120; clear BK121; clear HB; clear HO_5; have BK120 := n0_; have BK121 := n1_; have HB := n2_; have HO130 := n3_; clear n0_ n1_ n2_ n3_; clear ho hb hg hat)); try go_wp2_with (first | ((with_reducible refine gate_builtin (b := .append) (xs := #[.tmp 144, .tmp 146]) rfl ?_); (try (refine gate_guard (by rfl) ?_; dsimp only)); at_builtin; refine Kd.R_append k107 (w0 := w) w.heap.size rfl (.tmp 144) (.tmp 146) 60 107 (.agg #[(.int .i64 0), (.int .i64 0), (.int .i64 0), (.bool false), (.int .i64 0), (.int .i64 0), (.string ⟨#[]⟩), (.bool false)]) 72 rfl Try.underlying60 info107 rfl (by decide) (by omega) u5 x5_2 (⟨(rd_T107 l1 x7_2).f0, (rd_T107 l1 x7_2).f1, (⟨(rd_T107 l1 x7_2).f2.f0, (⟨(rd_T107 l1 x7_2).f2.f1.f0, (rd_T107 l1 x7_2).f2.f1.f1, (rd_T107 l1 x7_2).f2.f1.f2⟩ : S103), (rd_T107 l1 x7_2).f2.f2⟩ : S105), (rd_T107 l1 x7_2).f3⟩ : S107) [.int .i64 ((rd_T107 l1 x7_2).f0), .int .i64 ((rd_T107 l1 x7_2).f1), .int .i64 ((rd_T107 l1 x7_2).f2.f0), .bool ((rd_T107 l1 x7_2).f2.f1.f0), .int .i64 ((rd_T107 l1 x7_2).f2.f1.f1), .int .i64 ((rd_T107 l1 x7_2).f2.f1.f2), .string ((rd_T107 l1 x7_2).f2.f2), .bool ((rd_T107 l1 x7_2).f3)] (fun k_ => k_ ≠ gb120 ∧ k_ ≠ gb121) (fun _ => False) rfl (by first | (go_simp; done) | (go_simp; rfl)) ?aP (fun _ hk => hk.elim) ?aF ?aO ?aB ?aS ?aL ?_; (case aP => exact k107_mkM _ _ _ (⟨(rd_T107 l1 x7_2).f0, (rd_T107 l1 x7_2).f1, (⟨(rd_T107 l1 x7_2).f2.f0, (⟨(rd_T107 l1 x7_2).f2.f1.f0, (rd_T107 l1 x7_2).f2.f1.f1, (rd_T107 l1 x7_2).f2.f1.f2⟩ : S103), (rd_T107 l1 x7_2).f2.f2⟩ : S105), (rd_T107 l1 x7_2).f3⟩ : S107)); (case aB => exact (ibh HB.out)); (case aF => exact (fun k_ hk => ⟨Kd.freshB (g := gb120) (o := .cells #[.int .i64 x121000_31, .int .i64 x121001_31, .int .i64 x121002_31, .bool x121003_31, .int .i64 x121004_31, .int .i64 x121005_31, .string x121006_31, .bool x121007_31] 107 (0, 0)) (cy BK120.out) k_ hk, Kd.freshB (g := gb121) (o := .cells #[.int .i64 ((rd_T107 l1 x7_2).f0), .int .i64 ((rd_T107 l1 x7_2).f1), .int .i64 ((rd_T107 l1 x7_2).f2.f0), .bool ((rd_T107 l1 x7_2).f2.f1.f0), .int .i64 ((rd_T107 l1 x7_2).f2.f1.f1), .int .i64 ((rd_T107 l1 x7_2).f2.f1.f2), .string ((rd_T107 l1 x7_2).f2.f2), .bool ((rd_T107 l1 x7_2).f3)] 107 (0, 0)) (by refine cz ?_; refine z10q (cs := #[.int .i64 ((rd_T107 l1 x7_2).f0), .int .i64 ((rd_T107 l1 x7_2).f1), .int .i64 ((rd_T107 l1 x7_2).f2.f0), .bool ((rd_T107 l1 x7_2).f2.f1.f0), .int .i64 ((rd_T107 l1 x7_2).f2.f1.f1), .int .i64 ((rd_T107 l1 x7_2).f2.f1.f2), .string ((rd_T107 l1 x7_2).f2.f2), .bool false]) ?_ 7 _ rfl; refine cz ?_; refine z10q (cs := #[.int .i64 ((rd_T107 l1 x7_2).f0), .int .i64 ((rd_T107 l1 x7_2).f1), .int .i64 ((rd_T107 l1 x7_2).f2.f0), .bool ((rd_T107 l1 x7_2).f2.f1.f0), .int .i64 ((rd_T107 l1 x7_2).f2.f1.f1), .int .i64 ((rd_T107 l1 x7_2).f2.f1.f2), .string (⟨#[]⟩ : ByteArray), .bool false]) ?_ 6 _ rfl; refine cz ?_; refine z10q (cs := #[.int .i64 ((rd_T107 l1 x7_2).f0), .int .i64 ((rd_T107 l1 x7_2).f1), .int .i64 ((rd_T107 l1 x7_2).f2.f0), .bool ((rd_T107 l1 x7_2).f2.f1.f0), .int .i64 ((rd_T107 l1 x7_2).f2.f1.f1), .int .i64 0, .string (⟨#[]⟩ : ByteArray), .bool false]) ?_ 5 _ rfl; refine cz ?_; refine z10q (cs := #[.int .i64 ((rd_T107 l1 x7_2).f0), .int .i64 ((rd_T107 l1 x7_2).f1), .int .i64 ((rd_T107 l1 x7_2).f2.f0), .bool ((rd_T107 l1 x7_2).f2.f1.f0), .int .i64 0, .int .i64 0, .string (⟨#[]⟩ : ByteArray), .bool false]) ?_ 4 _ rfl; refine cz ?_; refine z10q (cs := #[.int .i64 ((rd_T107 l1 x7_2).f0), .int .i64 ((rd_T107 l1 x7_2).f1), .int .i64 ((rd_T107 l1 x7_2).f2.f0), .bool false, .int .i64 0, .int .i64 0, .string (⟨#[]⟩ : ByteArray), .bool false]) ?_ 3 _ rfl; refine cz ?_; refine z10q (cs := #[.int .i64 ((rd_T107 l1 x7_2).f0), .int .i64 ((rd_T107 l1 x7_2).f1), .int .i64 0, .bool false, .int .i64 0, .int .i64 0, .string (⟨#[]⟩ : ByteArray), .bool false]) ?_ 2 _ rfl; refine cz ?_; refine z10q (cs := #[.int .i64 ((rd_T107 l1 x7_2).f0), .int .i64 x9_18, .int .i64 0, .bool false, .int .i64 0, .int .i64 0, .string (⟨#[]⟩ : ByteArray), .bool false]) ?_ 1 _ rfl; refine cz ?_; refine z10q (cs := #[.int .i64 x8_18, .int .i64 x9_18, .int .i64 0, .bool false, .int .i64 0, .int .i64 0, .string (⟨#[]⟩ : ByteArray), .bool false]) ?_ 0 _ rfl; exact cy BK121.out) k_ hk⟩)); (case aO => exact (by (with_reducible repeat (first | apply Kd.R_alloc | apply Kd.R_drewN | apply Kd.R_drew)); exact Kd.R_mono (Kd.R_far (p := ⟨gb121, 7, none⟩) (Kd.R_far (p := ⟨gb121, 6, none⟩) (Kd.R_far (p := ⟨gb121, 5, none⟩) (Kd.R_far (p := ⟨gb121, 4, none⟩) (Kd.R_far (p := ⟨gb121, 3, none⟩) (Kd.R_far (p := ⟨gb121, 2, none⟩) (Kd.R_far (p := ⟨gb121, 1, none⟩) (Kd.R_far (p := ⟨gb121, 0, none⟩) (Kd.R_mono HO_5.out (fun k_ hk => (⟨hk, hk.2⟩ : _ ∧ k_ ≠ gb121))) (fun _ hk => hk.2) (.int .i64 ((rd_T107 l1 x7_2).f0))) (fun _ hk => hk.2) (.int .i64 ((rd_T107 l1 x7_2).f1))) (fun _ hk => hk.2) (.int .i64 ((rd_T107 l1 x7_2).f2.f0))) (fun _ hk => hk.2) (.bool ((rd_T107 l1 x7_2).f2.f1.f0))) (fun _ hk => hk.2) (.int .i64 ((rd_T107 l1 x7_2).f2.f1.f1))) (fun _ hk => hk.2) (.int .i64 ((rd_T107 l1 x7_2).f2.f1.f2))) (fun _ hk => hk.2) (.string ((rd_T107 l1 x7_2).f2.f2))) (fun _ hk => hk.2) (.bool ((rd_T107 l1 x7_2).f3))) (fun _ hk => ⟨hk.1.1, hk.1.2⟩))); (case aS => exact (z5q (ibh HB.out))); (case aL => have := LMc46.out; omega); intro v129 w50 ho hb hg hat; rw [← Ny128.out] at ho; have n0_ := Aside0.mk (blk_grown (g := gb120) (o := .cells #[.int .i64 x121000_31, .int .i64 x121001_31, .int .i64 x121002_31, .bool x121003_31, .int .i64 x121004_31, .int .i64 x121005_31, .string x121006_31, .bool x121007_31] 107 (0, 0)) (cy BK120.out) hg (Kd.R_away HO_5.out (fun _ hk => hk.1))); have n1_ := Aside0.mk (blk_grown (g := gb121) (o := .cells #[.int .i64 ((rd_T107 l1 x7_2).f0), .int .i64 ((rd_T107 l1 x7_2).f1), .int .i64 ((rd_T107 l1 x7_2).f2.f0), .bool ((rd_T107 l1 x7_2).f2.f1.f0), .int .i64 ((rd_T107 l1 x7_2).f2.f1.f1), .int .i64 ((rd_T107 l1 x7_2).f2.f1.f2), .string ((rd_T107 l1 x7_2).f2.f2), .bool ((rd_T107 l1 x7_2).f3)] 107 (0, 0)) (by refine cz ?_; refine z10q (cs := #[.int .i64 ((rd_T107 l1 x7_2).f0), .int .i64 ((rd_T107 l1 x7_2).f1), .int .i64 ((rd_T107 l1 x7_2).f2.f0), .bool ((rd_T107 l1 x7_2).f2.f1.f0), .int .i64 ((rd_T107 l1 x7_2).f2.f1.f1), .int .i64 ((rd_T107 l1 x7_2).f2.f1.f2), .string ((rd_T107 l1 x7_2).f2.f2), .bool false]) ?_ 7 _ rfl; refine cz ?_; refine z10q (cs := #[.int .i64 ((rd_T107 l1 x7_2).f0), .int .i64 ((rd_T107 l1 x7_2).f1), .int .i64 ((rd_T107 l1 x7_2).f2.f0), .bool ((rd_T107 l1 x7_2).f2.f1.f0), .int .i64 ((rd_T107 l1 x7_2).f2.f1.f1), .int .i64 ((rd_T107 l1 x7_2).f2.f1.f2), .string (⟨#[]⟩ : ByteArray), .bool false]) ?_ 6 _ rfl; refine cz ?_; refine z10q (cs := #[.int .i64 ((rd_T107 l1 x7_2).f0), .int .i64 ((rd_T107 l1 x7_2).f1), .int .i64 ((rd_T107 l1 x7_2).f2.f0), .bool ((rd_T107 l1 x7_2).f2.f1.f0), .int .i64 ((rd_T107 l1 x7_2).f2.f1.f1), .int .i64 0, .string (⟨#[]⟩ : ByteArray), .bool false]) ?_ 5 _ rfl; refine cz ?_; refine z10q (cs := #[.int .i64 ((rd_T107 l1 x7_2).f0), .int .i64 ((rd_T107 l1 x7_2).f1), .int .i64 ((rd_T107 l1 x7_2).f2.f0), .bool ((rd_T107 l1 x7_2).f2.f1.f0), .int .i64 0, .int .i64 0, .string (⟨#[]⟩ : ByteArray), .bool false]) ?_ 4 _ rfl; refine cz ?_; refine z10q (cs := #[.int .i64 ((rd_T107 l1 x7_2).f0), .int .i64 ((rd_T107 l1 x7_2).f1), .int .i64 ((rd_T107 l1 x7_2).f2.f0), .bool false, .int .i64 0, .int .i64 0, .string (⟨#[]⟩ : ByteArray), .bool false]) ?_ 3 _ rfl; refine cz ?_; refine z10q (cs := #[.int .i64 ((rd_T107 l1 x7_2).f0), .int .i64 ((rd_T107 l1 x7_2).f1), .int .i64 0, .bool false, .int .i64 0, .int .i64 0, .string (⟨#[]⟩ : ByteArray), .bool false]) ?_ 2 _ rfl; refine cz ?_; refine z10q (cs := #[.int .i64 ((rd_T107 l1 x7_2).f0), .int .i64 x9_18, .int .i64 0, .bool false, .int .i64 0, .int .i64 0, .string (⟨#[]⟩ : ByteArray), .bool false]) ?_ 1 _ rfl; refine cz ?_; refine z10q (cs := #[.int .i64 x8_18, .int .i64 x9_18, .int .i64 0, .bool false, .int .i64 0, .int .i64 0, .string (⟨#[]⟩ : ByteArray), .bool false]) ?_ 0 _ rfl; exact cy BK121.out) hg (Kd.R_away HO_5.out (fun _ hk => hk.2))); have n2_ := Aside0.mk (hb); have n3_ := Aside0.mk (ho); clear BK120; clear BK121; clear HB; clear HO_5; have BK120 := n0_; have BK121 := n1_; have HB := n2_; have HO130 := n3_; clear n0_ n1_ n2_ n3_; clear ho hb hg hat)))
                          go_roundg kj37
                          case measure => have := HJ2.out; have := HK2.out; have := HJ7.out; have := HJ10.out; have := HJ13.out; have := HJ18.out; have := HJ22.out; have := HJ31.out; have := HJ37.out; omega
                          case rel => exact ⟨(y128), (x6_31), (wrap64 (x7_2 + 1)), (by first | rfl | (simp; done) | (simp [*]; done) | (simp; unfold wrap64; omega)), (by first | rfl | (simp; done) | (simp [*]; done) | (simp; unfold wrap64; omega)), H', ⟨by have := HJ2.out; have := HK2.out; have := HJ7.out; have := HJ10.out; have := HJ13.out; have := HJ18.out; have := HJ22.out; have := HJ31.out; have := HJ37.out; omega⟩, ⟨by (with_reducible repeat (first | apply Kd.R_alloc | apply Kd.R_drewN | apply Kd.R_drew)); exact Kd.R_mono HO130.out (fun _ hk => trivial)⟩, ⟨by repeat (first | (with_reducible first | exact HB.out | apply z7q | apply z3q | apply z4q | refine z11q ?_ GE120.out | refine z11q ?_ GE121.out) | exact HB.out)⟩⟩
                         ·rw [if_neg c46] at H
                          exact absurd H (by simp)
                        ·rw [if_neg c45] at H
                         have c45b0 : (!(x121000_31 == ((rd_T107 l1 x7_2).f0)) || (!(x121001_31 == ((rd_T107 l1 x7_2).f1)) || ((!(x121002_31 == ((rd_T107 l1 x7_2).f2.f0)) || ((!(x121003_31 == ((rd_T107 l1 x7_2).f2.f1.f0)) || (!(x121004_31 == ((rd_T107 l1 x7_2).f2.f1.f1)) || (!(x121005_31 == ((rd_T107 l1 x7_2).f2.f1.f2))))) || (!(x121006_31.toList == (((rd_T107 l1 x7_2).f2.f2).toList))))) || (!(x121007_31 == ((rd_T107 l1 x7_2).f3)))))) = false := by simpa using c45
                         clear c45
                         have H' := Aside0.mk H
                         clear H
                         have p127 : 0 ≤ (x7_2 : Int) := of_decide_eq_true (by first | (with_reducible assumption) | assumption)
                         have q127 : x7_2 < (l1.length : Int) := of_decide_eq_true (by first | (with_reducible assumption) | assumption)
                         obtain ⟨ad127, e127, hx127_0, hx127_1, hx127_2, hx127_3, hx127_4, hx127_5, hx127_6, hx127_7⟩ := at_T107 HR1.out x7_2 p127 q127
                         cases e127
                         replace hx127_0 := (hbc HB.out hx127_0).trans hx127_0
                         replace hx127_1 := (hbc HB.out hx127_1).trans hx127_1
                         replace hx127_2 := (hbc HB.out hx127_2).trans hx127_2
                         replace hx127_3 := (hbc HB.out hx127_3).trans hx127_3
                         replace hx127_4 := (hbc HB.out hx127_4).trans hx127_4
                         replace hx127_5 := (hbc HB.out hx127_5).trans hx127_5
                         replace hx127_6 := (hbc HB.out hx127_6).trans hx127_6
                         replace hx127_7 := (hbc HB.out hx127_7).trans hx127_7
                         replace p127 := eq_true p127
                         replace q127 := eq_true q127
                         have hnb51 := NB121_120.out
                         have hnc51 := NB120_121.out
                         have hcz52_0 : wc.cell? ⟨gb121, 0, none⟩ = some (.int .i64 x8_18) := (z1q BK121.out 0).trans rfl
                         have hcz52_1 : wc.cell? ⟨gb121, 1, none⟩ = some (.int .i64 x9_18) := (z1q BK121.out 1).trans rfl
                         have hcz52_2 : wc.cell? ⟨gb121, 2, none⟩ = some (.int .i64 0) := (z1q BK121.out 2).trans rfl
                         have hcz52_3 : wc.cell? ⟨gb121, 3, none⟩ = some (.bool false) := (z1q BK121.out 3).trans rfl
                         have hcz52_4 : wc.cell? ⟨gb121, 4, none⟩ = some (.int .i64 0) := (z1q BK121.out 4).trans rfl
                         have hcz52_5 : wc.cell? ⟨gb121, 5, none⟩ = some (.int .i64 0) := (z1q BK121.out 5).trans rfl
                         have hcz52_6 : wc.cell? ⟨gb121, 6, none⟩ = some (.string (⟨#[]⟩ : ByteArray)) := (z1q BK121.out 6).trans rfl
                         have hcz52_7 : wc.cell? ⟨gb121, 7, none⟩ = some (.bool false) := (z1q BK121.out 7).trans rfl
                         have hfz52_0 := z0q BK121.out 0
                         have hfz52_1 := z0q BK121.out 1
                         have hfz52_2 := z0q BK121.out 2
                         have hfz52_3 := z0q BK121.out 3
                         have hfz52_4 := z0q BK121.out 4
                         have hfz52_5 := z0q BK121.out 5
                         have hfz52_6 := z0q BK121.out 6
                         have hfz52_7 := z0q BK121.out 7
                         have hcz53_0 : wc.cell? ⟨gb120, 0, none⟩ = some (.int .i64 x121000_31) := (z1q BK120.out 0).trans rfl
                         have hcz53_1 : wc.cell? ⟨gb120, 1, none⟩ = some (.int .i64 x121001_31) := (z1q BK120.out 1).trans rfl
                         have hcz53_2 : wc.cell? ⟨gb120, 2, none⟩ = some (.int .i64 x121002_31) := (z1q BK120.out 2).trans rfl
                         have hcz53_3 : wc.cell? ⟨gb120, 3, none⟩ = some (.bool x121003_31) := (z1q BK120.out 3).trans rfl
                         have hcz53_4 : wc.cell? ⟨gb120, 4, none⟩ = some (.int .i64 x121004_31) := (z1q BK120.out 4).trans rfl
                         have hcz53_5 : wc.cell? ⟨gb120, 5, none⟩ = some (.int .i64 x121005_31) := (z1q BK120.out 5).trans rfl
                         have hcz53_6 : wc.cell? ⟨gb120, 6, none⟩ = some (.string x121006_31) := (z1q BK120.out 6).trans rfl
                         have hcz53_7 : wc.cell? ⟨gb120, 7, none⟩ = some (.bool x121007_31) := (z1q BK120.out 7).trans rfl
                         have hfz53_0 := z0q BK120.out 0
                         have hfz53_1 := z0q BK120.out 1
                         have hfz53_2 := z0q BK120.out 2
                         have hfz53_3 := z0q BK120.out 3
                         have hfz53_4 := z0q BK120.out 4
                         have hfz53_5 := z0q BK120.out 5
                         have hfz53_6 := z0q BK120.out 6
                         have hfz53_7 := z0q BK120.out 7
                         go_wp2
                         repeat (go_quiet (fail); try go_wp2)
                         go_roundg kj37
                         case measure => have := HJ2.out; have := HK2.out; have := HJ7.out; have := HJ10.out; have := HJ13.out; have := HJ18.out; have := HJ22.out; have := HJ31.out; have := HJ37.out; omega
                         case rel => exact ⟨(x5_2), (x6_31), (wrap64 (x7_2 + 1)), (by first | rfl | (simp; done) | (simp [*]; done) | (simp; unfold wrap64; omega)), (by first | rfl | (simp; done) | (simp [*]; done) | (simp; unfold wrap64; omega)), H', ⟨by have := HJ2.out; have := HK2.out; have := HJ7.out; have := HJ10.out; have := HJ13.out; have := HJ18.out; have := HJ22.out; have := HJ31.out; have := HJ37.out; omega⟩, ⟨by (with_reducible repeat (first | apply Kd.R_alloc | apply Kd.R_drewN | apply Kd.R_drew)); exact Kd.R_mono (Kd.R_far (p := ⟨gb121, 7, none⟩) (Kd.R_far (p := ⟨gb121, 6, none⟩) (Kd.R_far (p := ⟨gb121, 5, none⟩) (Kd.R_far (p := ⟨gb121, 4, none⟩) (Kd.R_far (p := ⟨gb121, 3, none⟩) (Kd.R_far (p := ⟨gb121, 2, none⟩) (Kd.R_far (p := ⟨gb121, 1, none⟩) (Kd.R_far (p := ⟨gb121, 0, none⟩) (Kd.R_mono HO_5.out (fun k_ hk => (⟨hk, hk.2⟩ : _ ∧ k_ ≠ gb121))) (fun _ hk => hk.2) (.int .i64 ((rd_T107 l1 x7_2).f0))) (fun _ hk => hk.2) (.int .i64 ((rd_T107 l1 x7_2).f1))) (fun _ hk => hk.2) (.int .i64 ((rd_T107 l1 x7_2).f2.f0))) (fun _ hk => hk.2) (.bool ((rd_T107 l1 x7_2).f2.f1.f0))) (fun _ hk => hk.2) (.int .i64 ((rd_T107 l1 x7_2).f2.f1.f1))) (fun _ hk => hk.2) (.int .i64 ((rd_T107 l1 x7_2).f2.f1.f2))) (fun _ hk => hk.2) (.string ((rd_T107 l1 x7_2).f2.f2))) (fun _ hk => hk.2) (.bool ((rd_T107 l1 x7_2).f3))) (fun _ hk => trivial)⟩, ⟨by repeat (first | (with_reducible first | exact HB.out | apply z7q | apply z3q | apply z4q | refine z11q ?_ GE120.out | refine z11q ?_ GE121.out) | exact HB.out)⟩⟩
                       ·rw [if_neg c44] at H
                        exact absurd H (by simp)
                      ·rw [if_neg c43] at H
                       exact absurd H (by simp)
                     ·replace c42 := Bool.eq_false_iff.mpr c42
                      subst c42
                      have H1 : (if (!(x121000_31 == x8_18) || (!(x121001_31 == x9_18) || ((!(x121002_31 == 0) || ((!(x121003_31 == false) || (!(x121004_31 == 0) || (!(x121005_31 == 0)))) || (!(x121006_31.toList == (⟨#[]⟩ : ByteArray).toList)))) || (!(x121007_31 == false))))) = true then (if x5_2.length < 1954687338268 then (spec_Differ.l0 kj37 l0 l1 (x5_2 ++ [(⟨x8_18, x9_18, (⟨0, (⟨false, 0, 0⟩ : S103), (⟨#[]⟩ : ByteArray)⟩ : S105), false⟩ : S107)]) x6_31 x7_2) else (none)) else (spec_Differ.l0 kj37 l0 l1 x5_2 x6_31 x7_2)) = some r := by rw [if_neg (show ¬ (false = true) by decide)] at H; exact H
                      clear H
                      have H := H1
                      clear H1
                      by_cases c54 : (!(x121000_31 == x8_18) || (!(x121001_31 == x9_18) || ((!(x121002_31 == 0) || ((!(x121003_31 == false) || (!(x121004_31 == 0) || (!(x121005_31 == 0)))) || (!(x121006_31.toList == (⟨#[]⟩ : ByteArray).toList)))) || (!(x121007_31 == false))))) = true
                      ·rw [if_pos c54] at H
                       have c54b0 : (!(x121000_31 == x8_18) || (!(x121001_31 == x9_18) || ((!(x121002_31 == 0) || ((!(x121003_31 == false) || (!(x121004_31 == 0) || (!(x121005_31 == 0)))) || (!(x121006_31.toList == (⟨#[]⟩ : ByteArray).toList)))) || (!(x121007_31 == false))))) = true := c54
                       have c54z : (!(x121000_31 == x8_18) || (!(x121001_31 == x9_18) || ((!(x121002_31 == 0) || ((x121003_31 || (!(x121004_31 == 0) || (!(x121005_31 == 0)))) || (!(x121006_31.toList.isEmpty)))) || x121007_31))) = true := by have q_ := c54b0; rw [nilTo] at q_; simp only [beq_false, Bool.not_not] at q_; first | exact q_ | (simpa using q_)
                       clear c54
                       by_cases c55 : x5_2.length < 1954687338268
                       ·rw [if_pos c55] at H
                        have LMc55 := Aside0.mk c55
                        clear c55
                        obtain ⟨y131, hy131⟩ : ∃ y_ : List (S107), y_ = (x5_2 ++ [(⟨x8_18, x9_18, (⟨0, (⟨false, 0, 0⟩ : S103), (⟨#[]⟩ : ByteArray)⟩ : S105), false⟩ : S107)]) := ⟨_, rfl⟩
                        replace H : (spec_Differ.l0 kj37 l0 l1 y131 x6_31 x7_2) = some r := by first | (rw [hy131]; with_reducible exact H) | (have H2_ := (Option.bind_some _ _).symm.trans H; rw [hy131]; with_reducible exact H2_) | (have H2_ := (Option.bind_some _ _).symm.trans H; with_reducible exact H2_) | with_reducible exact H | (rw [hy131]; exact H) | exact H
                        have Ny131 := Aside0.mk hy131
                        clear hy131
                        have H' := Aside0.mk H
                        clear H
                        have hnb56 := NB120_121.out
                        have hnc56 := NB121_120.out
                        have hcz57_0 : wc.cell? ⟨gb120, 0, none⟩ = some (.int .i64 x121000_31) := (z1q BK120.out 0).trans rfl
                        have hcz57_1 : wc.cell? ⟨gb120, 1, none⟩ = some (.int .i64 x121001_31) := (z1q BK120.out 1).trans rfl
                        have hcz57_2 : wc.cell? ⟨gb120, 2, none⟩ = some (.int .i64 x121002_31) := (z1q BK120.out 2).trans rfl
                        have hcz57_3 : wc.cell? ⟨gb120, 3, none⟩ = some (.bool x121003_31) := (z1q BK120.out 3).trans rfl
                        have hcz57_4 : wc.cell? ⟨gb120, 4, none⟩ = some (.int .i64 x121004_31) := (z1q BK120.out 4).trans rfl
                        have hcz57_5 : wc.cell? ⟨gb120, 5, none⟩ = some (.int .i64 x121005_31) := (z1q BK120.out 5).trans rfl
                        have hcz57_6 : wc.cell? ⟨gb120, 6, none⟩ = some (.string x121006_31) := (z1q BK120.out 6).trans rfl
                        have hcz57_7 : wc.cell? ⟨gb120, 7, none⟩ = some (.bool x121007_31) := (z1q BK120.out 7).trans rfl
                        have hfz57_0 := z0q BK120.out 0
                        have hfz57_1 := z0q BK120.out 1
                        have hfz57_2 := z0q BK120.out 2
                        have hfz57_3 := z0q BK120.out 3
                        have hfz57_4 := z0q BK120.out 4
                        have hfz57_5 := z0q BK120.out 5
                        have hfz57_6 := z0q BK120.out 6
                        have hfz57_7 := z0q BK120.out 7
                        have hcz58_0 : wc.cell? ⟨gb121, 0, none⟩ = some (.int .i64 x8_18) := (z1q BK121.out 0).trans rfl
                        have hcz58_1 : wc.cell? ⟨gb121, 1, none⟩ = some (.int .i64 x9_18) := (z1q BK121.out 1).trans rfl
                        have hcz58_2 : wc.cell? ⟨gb121, 2, none⟩ = some (.int .i64 0) := (z1q BK121.out 2).trans rfl
                        have hcz58_3 : wc.cell? ⟨gb121, 3, none⟩ = some (.bool false) := (z1q BK121.out 3).trans rfl
                        have hcz58_4 : wc.cell? ⟨gb121, 4, none⟩ = some (.int .i64 0) := (z1q BK121.out 4).trans rfl
                        have hcz58_5 : wc.cell? ⟨gb121, 5, none⟩ = some (.int .i64 0) := (z1q BK121.out 5).trans rfl
                        have hcz58_6 : wc.cell? ⟨gb121, 6, none⟩ = some (.string (⟨#[]⟩ : ByteArray)) := (z1q BK121.out 6).trans rfl
                        have hcz58_7 : wc.cell? ⟨gb121, 7, none⟩ = some (.bool false) := (z1q BK121.out 7).trans rfl
                        have hfz58_0 := z0q BK121.out 0
                        have hfz58_1 := z0q BK121.out 1
                        have hfz58_2 := z0q BK121.out 2
                        have hfz58_3 := z0q BK121.out 3
                        have hfz58_4 := z0q BK121.out 4
                        have hfz58_5 := z0q BK121.out 5
                        have hfz58_6 := z0q BK121.out 6
                        have hfz58_7 := z0q BK121.out 7
                        go_wp2_with (first | ((with_reducible refine gate_builtin (b := .append) (xs := #[.tmp 144, .tmp 146]) rfl ?_); (try (refine gate_guard (by rfl) ?_; dsimp only)); at_builtin; refine Kd.R_append k107 (w0 := w) w.heap.size rfl (.tmp 144) (.tmp 146) 60 107 (.agg #[(.int .i64 0), (.int .i64 0), (.int .i64 0), (.bool false), (.int .i64 0), (.int .i64 0), (.string ⟨#[]⟩), (.bool false)]) 72 rfl Try.underlying60 info107 rfl (by decide) (by omega) u5 x5_2 (⟨x8_18, x9_18, (⟨0, (⟨false, 0, 0⟩ : S103), (⟨#[]⟩ : ByteArray)⟩ : S105), false⟩ : S107) [.int .i64 x8_18, .int .i64 x9_18, .int .i64 0, .bool false, .int .i64 0, .int .i64 0, .string (⟨#[]⟩ : ByteArray), .bool false] (fun k_ => k_ ≠ gb120 ∧ k_ ≠ gb121) (fun _ => False) rfl rfl ?aP (fun _ hk => hk.elim) ?aF ?aO ?aB ?aS ?aL ?_; (case aP => exact k107_mkM _ _ _ (⟨x8_18, x9_18, (⟨0, (⟨false, 0, 0⟩ : S103), (⟨#[]⟩ : ByteArray)⟩ : S105), false⟩ : S107)); (case aB => exact (ibh HB.out)); (case aF => exact (fun k_ hk => ⟨Kd.freshB (g := gb120) (o := .cells #[.int .i64 x121000_31, .int .i64 x121001_31, .int .i64 x121002_31, .bool x121003_31, .int .i64 x121004_31, .int .i64 x121005_31, .string x121006_31, .bool x121007_31] 107 (0, 0)) (cy BK120.out) k_ hk, Kd.freshB (g := gb121) (o := .cells #[.int .i64 x8_18, .int .i64 x9_18, .int .i64 0, .bool false, .int .i64 0, .int .i64 0, .string (⟨#[]⟩ : ByteArray), .bool false] 107 (0, 0)) (cy BK121.out) k_ hk⟩)); (case aO => exact (ro HO_5.out)); (case aS => exact (z5q (ibh HB.out))); (case aL => have := LMc55.out; omega); intro v132 w59 ho hb hg hat; rw [← Ny131.out] at ho; have n0_ := Aside0.mk (blk_grown (g := gb120) (o := .cells #[.int .i64 x121000_31, .int .i64 x121001_31, .int .i64 x121002_31, .bool x121003_31, .int .i64 x121004_31, .int .i64 x121005_31, .string x121006_31, .bool x121007_31] 107 (0, 0)) (cy BK120.out) hg (Kd.R_away HO_5.out (fun _ hk => hk.1))); have n1_ := Aside0.mk (blk_grown (g := gb121) (o := .cells #[.int .i64 x8_18, .int .i64 x9_18, .int .i64 0, .bool false, .int .i64 0, .int .i64 0, .string (⟨#[]⟩ : ByteArray), .bool false] 107 (0, 0)) (cy BK121.out) hg (Kd.R_away HO_5.out (fun _ hk => hk.2))); have n2_ := Aside0.mk (hb); have n3_ := Aside0.mk (ho); clear BK120; clear BK121; clear HB; clear HO_5; have BK120 := n0_; have BK121 := n1_; have HB := n2_; have HO133 := n3_; clear n0_ n1_ n2_ n3_; clear ho hb hg hat))
                        repeat (go_quiet (first | ((with_reducible refine gate_builtin (b := .append) (xs := #[.tmp 144, .tmp 146]) rfl ?_); (try (refine gate_guard (by rfl) ?_; dsimp only)); at_builtin; refine Kd.R_append k107 (w0 := w) w.heap.size rfl (.tmp 144) (.tmp 146) 60 107 (.agg #[(.int .i64 0), (.int .i64 0), (.int .i64 0), (.bool false), (.int .i64 0), (.int .i64 0), (.string ⟨#[]⟩), (.bool false)]) 72 rfl Try.underlying60 info107 rfl (by decide) (by omega) u5 x5_2 (⟨x8_18, x9_18, (⟨0, (⟨false, 0, 0⟩ : S103), (⟨#[]⟩ : ByteArray)⟩ : S105), false⟩ : S107) [.int .i64 x8_18, .int .i64 x9_18, .int .i64 0, .bool false, .int .i64 0, .int .i64 0, .string (⟨#[]⟩ : ByteArray), .bool false] (fun k_ => k_ ≠ gb120 ∧ k_ ≠ gb121) (fun _ => False) rfl rfl ?aP (fun _ hk => hk.elim) ?aF ?aO ?aB ?aS ?aL ?_; (case aP => exact k107_mkM _ _ _ (⟨x8_18, x9_18, (⟨0, (⟨false, 0, 0⟩ : S103), (⟨#[]⟩ : ByteArray)⟩ : S105), false⟩ : S107)); (case aB => exact (ibh HB.out)); (case aF => exact (fun k_ hk => ⟨Kd.freshB (g := gb120) (o := .cells #[.int .i64 x121000_31, .int .i64 x121001_31, .int .i64 x121002_31, .bool x121003_31, .int .i64 x121004_31, .int .i64 x121005_31, .string x121006_31, .bool x121007_31] 107 (0, 0)) (cy BK120.out) k_ hk, Kd.freshB (g := gb121) (o := .cells #[.int .i64 x8_18, .int .i64 x9_18, .int .i64 0, .bool false, .int .i64 0, .int .i64 0, .string (⟨#[]⟩ : ByteArray), .bool false] 107 (0, 0)) (cy BK121.out) k_ hk⟩)); (case aO => exact (ro HO_5.out)); (case aS => exact (z5q (ibh HB.out))); (case aL => have := LMc55.out; omega); intro v132 w59 ho hb hg hat; rw [← Ny131.out] at ho; have n0_ := Aside0.mk (blk_grown (g := gb120) (o := .cells #[.int .i64 x121000_31, .int .i64 x121001_31, .int .i64 x121002_31, .bool x121003_31, .int .i64 x121004_31, .int .i64 x121005_31, .string x121006_31, .bool x121007_31] 107 (0, 0)) (cy BK120.out) hg (Kd.R_away HO_5.out (fun _ hk => hk.1))); have n1_ := Aside0.mk (blk_grown (g := gb121) (o := .cells #[.int .i64 x8_18, .int .i64 x9_18, .int .i64 0, .bool false, .int .i64 0, .int .i64 0, .string (⟨#[]⟩ : ByteArray), .bool false] 107 (0, 0)) (cy BK121.out) hg (Kd.R_away HO_5.out (fun _ hk => hk.2))); have n2_ := Aside0.mk (hb); have n3_ := Aside0.mk (ho); clear BK120; clear BK121; clear HB; clear HO_5; have BK120 := n0_; have BK121 := n1_; have HB := n2_; have HO133 := n3_; clear n0_ n1_ n2_ n3_; clear ho hb hg hat)); try go_wp2_with (first | ((with_reducible refine gate_builtin (b := .append) (xs := #[.tmp 144, .tmp 146]) rfl ?_); (try (refine gate_guard (by rfl) ?_; dsimp only)); at_builtin; refine Kd.R_append k107 (w0 := w) w.heap.size rfl (.tmp 144) (.tmp 146) 60 107 (.agg #[(.int .i64 0), (.int .i64 0), (.int .i64 0), (.bool false), (.int .i64 0), (.int .i64 0), (.string ⟨#[]⟩), (.bool false)]) 72 rfl Try.underlying60 info107 rfl (by decide) (by omega) u5 x5_2 (⟨x8_18, x9_18, (⟨0, (⟨false, 0, 0⟩ : S103), (⟨#[]⟩ : ByteArray)⟩ : S105), false⟩ : S107) [.int .i64 x8_18, .int .i64 x9_18, .int .i64 0, .bool false, .int .i64 0, .int .i64 0, .string (⟨#[]⟩ : ByteArray), .bool false] (fun k_ => k_ ≠ gb120 ∧ k_ ≠ gb121) (fun _ => False) rfl rfl ?aP (fun _ hk => hk.elim) ?aF ?aO ?aB ?aS ?aL ?_; (case aP => exact k107_mkM _ _ _ (⟨x8_18, x9_18, (⟨0, (⟨false, 0, 0⟩ : S103), (⟨#[]⟩ : ByteArray)⟩ : S105), false⟩ : S107)); (case aB => exact (ibh HB.out)); (case aF => exact (fun k_ hk => ⟨Kd.freshB (g := gb120) (o := .cells #[.int .i64 x121000_31, .int .i64 x121001_31, .int .i64 x121002_31, .bool x121003_31, .int .i64 x121004_31, .int .i64 x121005_31, .string x121006_31, .bool x121007_31] 107 (0, 0)) (cy BK120.out) k_ hk, Kd.freshB (g := gb121) (o := .cells #[.int .i64 x8_18, .int .i64 x9_18, .int .i64 0, .bool false, .int .i64 0, .int .i64 0, .string (⟨#[]⟩ : ByteArray), .bool false] 107 (0, 0)) (cy BK121.out) k_ hk⟩)); (case aO => exact (ro HO_5.out)); (case aS => exact (z5q (ibh HB.out))); (case aL => have := LMc55.out; omega); intro v132 w59 ho hb hg hat; rw [← Ny131.out] at ho; have n0_ := Aside0.mk (blk_grown (g := gb120) (o := .cells #[.int .i64 x121000_31, .int .i64 x121001_31, .int .i64 x121002_31, .bool x121003_31, .int .i64 x121004_31, .int .i64 x121005_31, .string x121006_31, .bool x121007_31] 107 (0, 0)) (cy BK120.out) hg (Kd.R_away HO_5.out (fun _ hk => hk.1))); have n1_ := Aside0.mk (blk_grown (g := gb121) (o := .cells #[.int .i64 x8_18, .int .i64 x9_18, .int .i64 0, .bool false, .int .i64 0, .int .i64 0, .string (⟨#[]⟩ : ByteArray), .bool false] 107 (0, 0)) (cy BK121.out) hg (Kd.R_away HO_5.out (fun _ hk => hk.2))); have n2_ := Aside0.mk (hb); have n3_ := Aside0.mk (ho); clear BK120; clear BK121; clear HB; clear HO_5; have BK120 := n0_; have BK121 := n1_; have HB := n2_; have HO133 := n3_; clear n0_ n1_ n2_ n3_; clear ho hb hg hat)))
                        go_roundg kj37
                        case measure => have := HJ2.out; have := HK2.out; have := HJ7.out; have := HJ10.out; have := HJ13.out; have := HJ18.out; have := HJ22.out; have := HJ31.out; have := HJ37.out; omega
                        case rel => exact ⟨(y131), (x6_31), (x7_2), (by first | rfl | (simp; done) | (simp [*]; done) | (simp; unfold wrap64; omega)), (by first | rfl | (simp; done) | (simp [*]; done) | (simp; unfold wrap64; omega)), H', ⟨by have := HJ2.out; have := HK2.out; have := HJ7.out; have := HJ10.out; have := HJ13.out; have := HJ18.out; have := HJ22.out; have := HJ31.out; have := HJ37.out; omega⟩, ⟨by (with_reducible repeat (first | apply Kd.R_alloc | apply Kd.R_drewN | apply Kd.R_drew)); exact Kd.R_mono HO133.out (fun _ hk => trivial)⟩, ⟨by repeat (first | (with_reducible first | exact HB.out | apply z7q | apply z3q | apply z4q | refine z11q ?_ GE120.out | refine z11q ?_ GE121.out) | exact HB.out)⟩⟩
                       ·rw [if_neg c55] at H
                        exact absurd H (by simp)
                      ·rw [if_neg c54] at H
                       have c54b0 : (!(x121000_31 == x8_18) || (!(x121001_31 == x9_18) || ((!(x121002_31 == 0) || ((!(x121003_31 == false) || (!(x121004_31 == 0) || (!(x121005_31 == 0)))) || (!(x121006_31.toList == (⟨#[]⟩ : ByteArray).toList)))) || (!(x121007_31 == false))))) = false := by simpa using c54
                       have c54z : (!(x121000_31 == x8_18) || (!(x121001_31 == x9_18) || ((!(x121002_31 == 0) || ((x121003_31 || (!(x121004_31 == 0) || (!(x121005_31 == 0)))) || (!(x121006_31.toList.isEmpty)))) || x121007_31))) = false := by have q_ := c54b0; rw [nilTo] at q_; simp only [beq_false, Bool.not_not] at q_; first | exact q_ | (simpa using q_)
                       clear c54
                       have H' := Aside0.mk H
                       clear H
                       have hnb60 := NB120_121.out
                       have hnc60 := NB121_120.out
                       have hcz61_0 : wc.cell? ⟨gb120, 0, none⟩ = some (.int .i64 x121000_31) := (z1q BK120.out 0).trans rfl
                       have hcz61_1 : wc.cell? ⟨gb120, 1, none⟩ = some (.int .i64 x121001_31) := (z1q BK120.out 1).trans rfl
                       have hcz61_2 : wc.cell? ⟨gb120, 2, none⟩ = some (.int .i64 x121002_31) := (z1q BK120.out 2).trans rfl
                       have hcz61_3 : wc.cell? ⟨gb120, 3, none⟩ = some (.bool x121003_31) := (z1q BK120.out 3).trans rfl
                       have hcz61_4 : wc.cell? ⟨gb120, 4, none⟩ = some (.int .i64 x121004_31) := (z1q BK120.out 4).trans rfl
                       have hcz61_5 : wc.cell? ⟨gb120, 5, none⟩ = some (.int .i64 x121005_31) := (z1q BK120.out 5).trans rfl
                       have hcz61_6 : wc.cell? ⟨gb120, 6, none⟩ = some (.string x121006_31) := (z1q BK120.out 6).trans rfl
                       have hcz61_7 : wc.cell? ⟨gb120, 7, none⟩ = some (.bool x121007_31) := (z1q BK120.out 7).trans rfl
                       have hfz61_0 := z0q BK120.out 0
                       have hfz61_1 := z0q BK120.out 1
                       have hfz61_2 := z0q BK120.out 2
                       have hfz61_3 := z0q BK120.out 3
                       have hfz61_4 := z0q BK120.out 4
                       have hfz61_5 := z0q BK120.out 5
                       have hfz61_6 := z0q BK120.out 6
                       have hfz61_7 := z0q BK120.out 7
                       have hcz62_0 : wc.cell? ⟨gb121, 0, none⟩ = some (.int .i64 x8_18) := (z1q BK121.out 0).trans rfl
                       have hcz62_1 : wc.cell? ⟨gb121, 1, none⟩ = some (.int .i64 x9_18) := (z1q BK121.out 1).trans rfl
                       have hcz62_2 : wc.cell? ⟨gb121, 2, none⟩ = some (.int .i64 0) := (z1q BK121.out 2).trans rfl
                       have hcz62_3 : wc.cell? ⟨gb121, 3, none⟩ = some (.bool false) := (z1q BK121.out 3).trans rfl
                       have hcz62_4 : wc.cell? ⟨gb121, 4, none⟩ = some (.int .i64 0) := (z1q BK121.out 4).trans rfl
                       have hcz62_5 : wc.cell? ⟨gb121, 5, none⟩ = some (.int .i64 0) := (z1q BK121.out 5).trans rfl
                       have hcz62_6 : wc.cell? ⟨gb121, 6, none⟩ = some (.string (⟨#[]⟩ : ByteArray)) := (z1q BK121.out 6).trans rfl
                       have hcz62_7 : wc.cell? ⟨gb121, 7, none⟩ = some (.bool false) := (z1q BK121.out 7).trans rfl
                       have hfz62_0 := z0q BK121.out 0
                       have hfz62_1 := z0q BK121.out 1
                       have hfz62_2 := z0q BK121.out 2
                       have hfz62_3 := z0q BK121.out 3
                       have hfz62_4 := z0q BK121.out 4
                       have hfz62_5 := z0q BK121.out 5
                       have hfz62_6 := z0q BK121.out 6
                       have hfz62_7 := z0q BK121.out 7
                       go_wp2
                       repeat (go_quiet (fail); try go_wp2)
                       go_roundg kj37
                       case measure => have := HJ2.out; have := HK2.out; have := HJ7.out; have := HJ10.out; have := HJ13.out; have := HJ18.out; have := HJ22.out; have := HJ31.out; have := HJ37.out; omega
                       case rel => exact ⟨(x5_2), (x6_31), (x7_2), (by first | rfl | (simp; done) | (simp [*]; done) | (simp; unfold wrap64; omega)), (by first | rfl | (simp; done) | (simp [*]; done) | (simp; unfold wrap64; omega)), H', ⟨by have := HJ2.out; have := HK2.out; have := HJ7.out; have := HJ10.out; have := HJ13.out; have := HJ18.out; have := HJ22.out; have := HJ31.out; have := HJ37.out; omega⟩, ⟨by (with_reducible repeat (first | apply Kd.R_alloc | apply Kd.R_drewN | apply Kd.R_drew)); exact Kd.R_mono HO_5.out (fun _ hk => trivial)⟩, ⟨by repeat (first | (with_reducible first | exact HB.out | apply z7q | apply z3q | apply z4q | refine z11q ?_ GE120.out | refine z11q ?_ GE121.out) | exact HB.out)⟩⟩
        ·replace c10 := Bool.eq_false_iff.mpr c10
         subst c10
         have H1 : (some x5_2) = some r := by rw [if_neg (show ¬ (false = true) by decide)] at H; exact H
         clear H
         have H := H1
         clear H1
         obtain rfl := Option.some.inj H
         go_wp2
         repeat (go_quiet (fail); try go_wp2)
         go_ret
         exact ⟨_, by first | rfl | (simp [errW_none, errW_some] <;> rfl) | (simp [*, errW_none, errW_some] <;> rfl), by (with_reducible repeat (first | apply Kd.R_alloc | apply Kd.R_drewN | apply Kd.R_drew)); exact HO_5.out, by repeat (first | (with_reducible first | exact HB.out | apply z7q | apply z3q | apply z4q) | exact HB.out)⟩

set_option maxHeartbeats 100000000 in
set_option maxRecDepth 100000 in
theorem spec_Differ.calls (k : Nat) (A0 : Option Addr) (c0 : Nat) (l0 : List (S107)) (A1 : Option Addr) (c1 : Nat) (l1 : List (S107)) (r : List (S107)) (w : World) (hr0 : Kd.C k107 w A0 l0.length l0) (hc0 : l0.length ≤ c0) (hr1 : Kd.C k107 w A1 l1.length l1) (hc1 : l1.length ≤ c1) (h : spec_Differ.f k l0 l1 = some r) :
  Calls Try.prog 32 #[.slice A0 l0.length c0, .slice A1 l1.length c1] w fun e w' => ∃ v0_ : Value, e = .returned (v0_) ∧ Kd.R k107 107 w' w.heap.size (fun _ => True) v0_ r ∧ Below w.heap.size w w' := by
 have H : ((spec_l9Rising.f k l0).bind fun t111 => (if t111 = true then ((spec_l9Rising.f k l1).bind fun t112 => (spec_Differ.j0 k l0 l1 (!t112))) else (spec_Differ.j0 k l0 l1 true))) = some r := h
 exact spec_Differ.calls_p1 k A0 c0 l0 A1 c1 l1 r w hr0 hc0 hr1 hc1 H

/-! ### laws_toDec: function 94 -/

end Go.Proofs.Ytojfkjggpdlngaa.PFnExactDiffer
