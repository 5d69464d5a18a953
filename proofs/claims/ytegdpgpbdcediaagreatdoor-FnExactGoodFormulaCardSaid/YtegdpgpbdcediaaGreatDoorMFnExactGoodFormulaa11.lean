/- Functions of the program as Lean functions, and proofs that the Go code comes to their answers: for the law FnExactGoodFormula; made out of the print by a program of mine (compact.py). No conditions but each theorem's own. -/
import Derived.Test.YtegdpgpbdcediaaGreatDoorMFnExactGoodFormulaa0
import Derived.Test.YtegdpgpbdcediaaGreatDoorMFnExactGoodFormulaa2
import Derived.Test.YtegdpgpbdcediaaGreatDoorMFnExactGoodFormulaa10
namespace Go.Proofs.YtegdpgpbdcediaaGreatDoor.PFnExactGoodFormula
open List (map_toArray map_cons map_nil length_drop length_take set_cons_zero set_cons_succ setIfInBounds_toArray)
open Go.RowKit Go.Proofs.YtegdpgpbdcediaaGreatDoorW.PrintWords Go.Proofs.YtegdpgpbdcediaaGreatDoorW.PrintLast Go.Proofs.YtegdpgpbdcediaaGreatDoorW.PrintMore
attribute [local go_sem] max2_int min2_int max_two min_two max_three min_three max_four min_four   -- for this text's walks alone
set_option linter.unusedVariables false
set_option linter.unusedSimpArgs false

attribute [local go_sem high] eqA47 eqA65
set_option maxHeartbeats 8000000 in
set_option maxRecDepth 100000 in
theorem laws_toNodeS.calls (k : Nat) (A0 : Option Addr) (c0 : Nat) (l0 : List (S64)) (r : List (S67)) (w : World) (hr0 : Kd.C k64 w A0 l0.length l0) (hc0 : l0.length ≤ c0) (h : laws_toNodeS.f k l0 = some r) :
  Calls Tryz.prog 11 #[.slice A0 l0.length c0] w fun e w' => ∃ v0_ : Value, e = .returned (v0_) ∧ Kd.R k67 67 w' w.heap.size (fun _ => True) v0_ r ∧ Below w.heap.size w w' := by
 have hu64 := Tryz.underlying64
 have hu67 := Tryz.underlying67
 have HR0 := Aside0.mk hr0
 have HC0 := Aside0.mk hc0
 clear hr0 hc0
 have HB := Aside0.mk (Below.refl w.heap.size w)
 have H : (if 0 ≤ (l0.length : Int) then (if ((l0.length : Int) : Int).toNat ≤ 2706490160679 then (laws_toNodeS.l0 k l0 (List.replicate ((l0.length : Int) : Int).toNat z67) 0) else (none)) else (none)) = some r := h
 clear h
 by_cases c2 : 0 ≤ (l0.length : Int)
 ·rw [if_pos c2] at H
  have c2b0 := eq_true c2
  have c2b1 : decide (0 ≤ (l0.length : Int)) = true := decide_eq_true c2
  clear c2
  by_cases c3 : ((l0.length : Int) : Int).toNat ≤ 2706490160679
  ·rw [if_pos c3] at H
   have c3b0 := eq_true c3
   have c3b1 : decide (((l0.length : Int) : Int).toNat ≤ 2706490160679) = true := decide_eq_true c3
   clear c3
   obtain ⟨y350, hy350⟩ : ∃ y_ : List (S67), y_ = (List.replicate ((l0.length : Int) : Int).toNat z67) := ⟨_, rfl⟩
   replace H : (laws_toNodeS.l0 k l0 y350 0) = some r := by first | (rw [hy350]; with_reducible exact H) | (have H2_ := (Option.bind_some _ _).symm.trans H; rw [hy350]; with_reducible exact H2_) | (have H2_ := (Option.bind_some _ _).symm.trans H; with_reducible exact H2_) | with_reducible exact H | (rw [hy350]; exact H) | exact H
   have Ny350 := Aside0.mk hy350
   clear hy350
   have H' := Aside0.mk H
   clear H
   go_enter Tryz.func11, Tryz.ntmps11
   go_wp2_with (first | ((with_reducible refine z17q (N := 7) rfl ?_); refine Kd.R_make k67 _ 67 rfl (N := 7) rfl 25 _ _ rfl (l0.length : Int) rfl rfl Tryz.underlying25 (.agg #[(.int .i64 0), (.string ⟨#[]⟩), (.bool false), (.int .i64 0), (.int .i64 0), (.int .i64 0), (.int .i64 0), (.bool false), (.bool false), (.int .i64 0), (.int .i64 0), (.bool false), (.bool false), (.int .i64 0)]) 104 info67 rfl (by decide) (by omega) z67 (ok := fun _ => True) (okp := fun _ => True) (k67_mkM _ _ _ z67 ) (fun _ hk => hk) trivial (of_decide_eq_true (by first | (with_reducible assumption) | assumption)) (Nat.le_trans (Nat.mul_le_mul_right _ (of_decide_eq_true (by first | (with_reducible assumption) | assumption) : (l0.length : Int).toNat ≤ 2706490160679)) (by omega)) (Below.refl _ _) (Nat.le_refl _) ?_; intro v351 w4 ho5 hb hg_ hnew_; clear hg_ hnew_; (first | rw [← Ny350.out] at ho5 | (simp only [Int.reduceToNat] at ho5; rw [← Ny350.out] at ho5)); have n0_ := Aside0.mk (Kd.R_lower ho5 (z7q (ibh HB.out))); have n1_ := Aside0.mk (z6q (ibh HB.out) hb); clear HB; have HO352 := n0_; have HB := n1_; clear n0_ n1_; clear hb ho5))
   go_loopg [4] k (fun kq v4 w' => ∃ (x3_1 : List (S67)) (x4_1 : Int), v4 = .int .i64 x4_1 ∧ Aside0 (laws_toNodeS.l0 kq l0 x3_1 x4_1 = some r) ∧ Aside0 (kq ≤ k) ∧ Aside0 (Kd.R k67 67 w' w.heap.size (fun _ => True) v351 x3_1) ∧ Aside0 (Below w.heap.size w w'))
   case atStart => exact ⟨(y350), (0), (by first | rfl | (simp; done) | (simp [*]; done) | (simp; unfold wrap64; omega)), H', ⟨Nat.le_refl _⟩, ⟨by (with_reducible repeat (first | apply Kd.R_alloc | apply Kd.R_drewN | apply Kd.R_drew)); exact HO352.out⟩, ⟨by repeat (first | (with_reducible first | exact HB.out | apply z2q | apply z3q | apply z4q) | exact HB.out)⟩⟩
   case round =>
    clear H'
    try clear c1
    try clear c2
    try clear c2b0
    try clear c2b1
    try clear p2
    try clear c3
    try clear c3b0
    try clear c3b1
    obtain ⟨x3_1, x4_1, rfl, HA, HK1, HO_3, HB⟩ := hrel
    cases gk with
    | zero => exact absurd HA.out (by simp [laws_toNodeS.l0])
    | succ k1 =>
     have H := HA.out
     clear HA
     simp only [laws_toNodeS.l0] at H
     by_cases c6 : x4_1 < (l0.length : Int)
     ·rw [if_pos c6] at H
      have c6b0 : decide (x4_1 < (l0.length : Int)) = true := decide_eq_true c6
      clear c6
      by_cases c7 : 0 ≤ x4_1
      ·rw [if_pos c7] at H
       have c7b0 : decide (0 ≤ x4_1) = true := decide_eq_true c7
       clear c7
       replace H := Option.bind_eq_some_iff.mp H
       obtain ⟨⟨t354, t355, t356, t357, t358, t359, t360, t361, t362, t363, t364, t365, t366, t367⟩, A80, H⟩ := H
       replace H : (if x4_1 < (x3_1.length : Int) then (laws_toNodeS.l0 k1 l0 (x3_1.set (x4_1 : Int).toNat (⟨t354, t355, (⟨t356, t357, t358⟩ : S65), (⟨t359, t360, t361, t362⟩ : S47), (⟨t363, t364, t365, t366⟩ : S47), t367⟩ : S67)) (wrap64 (x4_1 + 1))) else (none)) = some r := H
       have A8 := Aside0.mk A80
       clear A80
       by_cases c9 : x4_1 < (x3_1.length : Int)
       ·rw [if_pos c9] at H
        have c9b0 : decide (x4_1 < (x3_1.length : Int)) = true := decide_eq_true c9
        clear c9
        obtain ⟨y368, hy368⟩ : ∃ y_ : List (S67), y_ = (x3_1.set (x4_1 : Int).toNat (⟨t354, t355, (⟨t356, t357, t358⟩ : S65), (⟨t359, t360, t361, t362⟩ : S47), (⟨t363, t364, t365, t366⟩ : S47), t367⟩ : S67)) := ⟨_, rfl⟩
        replace H : (laws_toNodeS.l0 k1 l0 y368 (wrap64 (x4_1 + 1))) = some r := by first | (rw [hy368]; with_reducible exact H) | (have H2_ := (Option.bind_some _ _).symm.trans H; rw [hy368]; with_reducible exact H2_) | (have H2_ := (Option.bind_some _ _).symm.trans H; with_reducible exact H2_) | with_reducible exact H | (rw [hy368]; exact H) | exact H
        have Ny368 := Aside0.mk hy368
        clear hy368
        have H' := Aside0.mk H
        clear H
        have p353 : 0 ≤ (x4_1 : Int) := of_decide_eq_true (by first | (with_reducible assumption) | assumption)
        have q353 : x4_1 < (l0.length : Int) := of_decide_eq_true (by first | (with_reducible assumption) | assumption)
        obtain ⟨ad353, e353, hx353_0, hx353_1, hx353_2, hx353_3, hx353_4, hx353_5, hx353_6, hx353_7, hx353_8, hx353_9, hx353_10, hx353_11, hx353_12, hx353_13⟩ := at_T64 HR0.out x4_1 p353 q353
        cases e353
        replace hx353_0 := (hbc HB.out hx353_0).trans hx353_0
        replace hx353_1 := (hbc HB.out hx353_1).trans hx353_1
        replace hx353_2 := (hbc HB.out hx353_2).trans hx353_2
        replace hx353_3 := (hbc HB.out hx353_3).trans hx353_3
        replace hx353_4 := (hbc HB.out hx353_4).trans hx353_4
        replace hx353_5 := (hbc HB.out hx353_5).trans hx353_5
        replace hx353_6 := (hbc HB.out hx353_6).trans hx353_6
        replace hx353_7 := (hbc HB.out hx353_7).trans hx353_7
        replace hx353_8 := (hbc HB.out hx353_8).trans hx353_8
        replace hx353_9 := (hbc HB.out hx353_9).trans hx353_9
        replace hx353_10 := (hbc HB.out hx353_10).trans hx353_10
        replace hx353_11 := (hbc HB.out hx353_11).trans hx353_11
        replace hx353_12 := (hbc HB.out hx353_12).trans hx353_12
        replace hx353_13 := (hbc HB.out hx353_13).trans hx353_13
        replace p353 := eq_true p353
        replace q353 := eq_true q353
        go_wp2_with (first | ((with_reducible refine z14q (f := 36) rfl ?_); refine z20q (some 20) rfl rfl Tryz.func36 (by kernel_rfl) rfl #[.agg #[.int .i64 ((rd_T64 l0 x4_1).f0), .string ((rd_T64 l0 x4_1).f1), .bool ((rd_T64 l0 x4_1).f2.f0), .int .i64 ((rd_T64 l0 x4_1).f2.f1), .int .i64 ((rd_T64 l0 x4_1).f2.f2), .int .i64 ((rd_T64 l0 x4_1).f3.f0), .int .i64 ((rd_T64 l0 x4_1).f3.f1), .bool ((rd_T64 l0 x4_1).f3.f2), .bool ((rd_T64 l0 x4_1).f3.f3), .int .i64 ((rd_T64 l0 x4_1).f4.f0), .int .i64 ((rd_T64 l0 x4_1).f4.f1), .bool ((rd_T64 l0 x4_1).f4.f2), .bool ((rd_T64 l0 x4_1).f4.f3), .int .i64 ((rd_T64 l0 x4_1).f5)]] rfl (by (try simp only [map_toArray, map_cons, map_nil]); first | done | rfl | (simp only [length_drop, length_take]; rfl)) ?_; (with_reducible refine (laws_toNode.calls ((rd_T64 l0 x4_1).f0) ((rd_T64 l0 x4_1).f1) ((rd_T64 l0 x4_1).f2.f0) ((rd_T64 l0 x4_1).f2.f1) ((rd_T64 l0 x4_1).f2.f2) ((rd_T64 l0 x4_1).f3.f0) ((rd_T64 l0 x4_1).f3.f1) ((rd_T64 l0 x4_1).f3.f2) ((rd_T64 l0 x4_1).f3.f3) ((rd_T64 l0 x4_1).f4.f0) ((rd_T64 l0 x4_1).f4.f1) ((rd_T64 l0 x4_1).f4.f2) ((rd_T64 l0 x4_1).f4.f3) ((rd_T64 l0 x4_1).f5) t354 t355 t356 t357 t358 t359 t360 t361 t362 t363 t364 t365 t366 t367 _ A8.out).mono ?_); rintro e w11 ⟨rfl, hb⟩; refine ⟨_, rfl, ?_⟩; have n0_ := Aside0.mk (Kd.R_below (ro HO_3.out) hb); have n1_ := Aside0.mk (z6q (ibh HB.out) hb); clear HO_3; clear HB; have HO_3 := n0_; have HB := n1_; clear n0_ n1_; (try clear hb); (try clear hb2); (try clear hk); (try clear hi); have p10 : 0 ≤ (x4_1 : Int) := of_decide_eq_true (by first | (with_reducible assumption) | assumption); have q10 : (x4_1 : Int) < ((x3_1.length : Int) : Int) := of_decide_eq_true (by first | (with_reducible assumption) | assumption); obtain ⟨go10, co10, eo10, gb10, gl10, cl10, HG10⟩ := Kd.R_form HO_3.out (by omega); (first | cases eo10 | (injection eo10 with ea_ en_ ec_; (first | subst ea_ | (injection ea_ with ea_; subst ea_)); subst ec_; clear en_)); have GB10 := Aside0.mk gb10; have GG10 := Aside0.mk HG10; clear gb10 gl10 HG10; obtain ⟨ce10, hcl10, hM10, hcc10, hfr10⟩ := Kd.R_elem HO_3.out z67 (x4_1 : Int) p10 q10; obtain rfl := k67_openM hM10; have hx10_0 : w11.cell? ⟨go10, (x4_1 : Int).toNat * 14, none⟩ = some (.int .i64 ((rd_T67 x3_1 x4_1).f0)) := hcc10 0 _ rfl; have hx10_1 : w11.cell? ⟨go10, (x4_1 : Int).toNat * 14 + 1, none⟩ = some (.string ((rd_T67 x3_1 x4_1).f1)) := hcc10 1 _ rfl; have hx10_2 : w11.cell? ⟨go10, (x4_1 : Int).toNat * 14 + 2, none⟩ = some (.bool ((rd_T67 x3_1 x4_1).f2.f0)) := hcc10 2 _ rfl; have hx10_3 : w11.cell? ⟨go10, (x4_1 : Int).toNat * 14 + 3, none⟩ = some (.int .i64 ((rd_T67 x3_1 x4_1).f2.f1)) := hcc10 3 _ rfl; have hx10_4 : w11.cell? ⟨go10, (x4_1 : Int).toNat * 14 + 4, none⟩ = some (.int .i64 ((rd_T67 x3_1 x4_1).f2.f2)) := hcc10 4 _ rfl; have hx10_5 : w11.cell? ⟨go10, (x4_1 : Int).toNat * 14 + 5, none⟩ = some (.int .i64 ((rd_T67 x3_1 x4_1).f3.f0)) := hcc10 5 _ rfl; have hx10_6 : w11.cell? ⟨go10, (x4_1 : Int).toNat * 14 + 6, none⟩ = some (.int .i64 ((rd_T67 x3_1 x4_1).f3.f1)) := hcc10 6 _ rfl; have hx10_7 : w11.cell? ⟨go10, (x4_1 : Int).toNat * 14 + 7, none⟩ = some (.bool ((rd_T67 x3_1 x4_1).f3.f2)) := hcc10 7 _ rfl; have hx10_8 : w11.cell? ⟨go10, (x4_1 : Int).toNat * 14 + 8, none⟩ = some (.bool ((rd_T67 x3_1 x4_1).f3.f3)) := hcc10 8 _ rfl; have hx10_9 : w11.cell? ⟨go10, (x4_1 : Int).toNat * 14 + 9, none⟩ = some (.int .i64 ((rd_T67 x3_1 x4_1).f4.f0)) := hcc10 9 _ rfl; have hx10_10 : w11.cell? ⟨go10, (x4_1 : Int).toNat * 14 + 10, none⟩ = some (.int .i64 ((rd_T67 x3_1 x4_1).f4.f1)) := hcc10 10 _ rfl; have hx10_11 : w11.cell? ⟨go10, (x4_1 : Int).toNat * 14 + 11, none⟩ = some (.bool ((rd_T67 x3_1 x4_1).f4.f2)) := hcc10 11 _ rfl; have hx10_12 : w11.cell? ⟨go10, (x4_1 : Int).toNat * 14 + 12, none⟩ = some (.bool ((rd_T67 x3_1 x4_1).f4.f3)) := hcc10 12 _ rfl; have hx10_13 : w11.cell? ⟨go10, (x4_1 : Int).toNat * 14 + 13, none⟩ = some (.int .i64 ((rd_T67 x3_1 x4_1).f5)) := hcc10 13 _ rfl; have hf10_0 : w11.frozen? ⟨go10, (x4_1 : Int).toNat * 14, none⟩ = false := hfr10 0; have hf10_1 : w11.frozen? ⟨go10, (x4_1 : Int).toNat * 14 + 1, none⟩ = false := hfr10 1; have hf10_2 : w11.frozen? ⟨go10, (x4_1 : Int).toNat * 14 + 2, none⟩ = false := hfr10 2; have hf10_3 : w11.frozen? ⟨go10, (x4_1 : Int).toNat * 14 + 3, none⟩ = false := hfr10 3; have hf10_4 : w11.frozen? ⟨go10, (x4_1 : Int).toNat * 14 + 4, none⟩ = false := hfr10 4; have hf10_5 : w11.frozen? ⟨go10, (x4_1 : Int).toNat * 14 + 5, none⟩ = false := hfr10 5; have hf10_6 : w11.frozen? ⟨go10, (x4_1 : Int).toNat * 14 + 6, none⟩ = false := hfr10 6; have hf10_7 : w11.frozen? ⟨go10, (x4_1 : Int).toNat * 14 + 7, none⟩ = false := hfr10 7; have hf10_8 : w11.frozen? ⟨go10, (x4_1 : Int).toNat * 14 + 8, none⟩ = false := hfr10 8; have hf10_9 : w11.frozen? ⟨go10, (x4_1 : Int).toNat * 14 + 9, none⟩ = false := hfr10 9; have hf10_10 : w11.frozen? ⟨go10, (x4_1 : Int).toNat * 14 + 10, none⟩ = false := hfr10 10; have hf10_11 : w11.frozen? ⟨go10, (x4_1 : Int).toNat * 14 + 11, none⟩ = false := hfr10 11; have hf10_12 : w11.frozen? ⟨go10, (x4_1 : Int).toNat * 14 + 12, none⟩ = false := hfr10 12; have hf10_13 : w11.frozen? ⟨go10, (x4_1 : Int).toNat * 14 + 13, none⟩ = false := hfr10 13; clear hcl10 hcc10 hfr10 hM10; replace p10 := eq_true p10; replace q10 := eq_true q10; have HX12 := Aside0.mk (show Kd.R k67 67 w11 w.heap.size (fun _ => True) (.slice (some ⟨go10, 0, none⟩) x3_1.length co10) x3_1 from (ro HO_3.out)); obtain ⟨ce12, hcl12, hM12, hcc12, hfr12⟩ := Kd.R_elem HX12.out z67 (x4_1 : Int) (of_decide_eq_true (by first | (with_reducible assumption) | assumption)) (by have h_ : (x4_1 : Int) < ((x3_1.length : Int) : Int) := of_decide_eq_true (by first | (with_reducible assumption) | assumption); first | exact h_ | (have e_ := (Kd.R_reads' HO_3.out).1; omega) | simpa using h_); obtain rfl := k67_openM hM12; have HP12 := Kd.R_seg HX12.out (x4_1 : Int) (of_decide_eq_true (by first | (with_reducible assumption) | assumption)) (by have h_ : (x4_1 : Int) < ((x3_1.length : Int) : Int) := of_decide_eq_true (by first | (with_reducible assumption) | assumption); first | exact h_ | (have e_ := (Kd.R_reads' HO_3.out).1; omega) | simpa using h_) (seg := [.int .i64 t354, .string t355, .bool t356, .int .i64 t357, .int .i64 t358, .int .i64 t359, .int .i64 t360, .bool t361, .bool t362, .int .i64 t363, .int .i64 t364, .bool t365, .bool t366, .int .i64 t367]) (j := 0) hcl12 hcc12 (show 14 ≤ 14 from by decide) (x' := (⟨t354, t355, (⟨t356, t357, t358⟩ : S65), (⟨t359, t360, t361, t362⟩ : S47), (⟨t363, t364, t365, t366⟩ : S47), t367⟩ : S67)) (k67_mkM _ _ _ (⟨t354, t355, (⟨t356, t357, t358⟩ : S65), (⟨t359, t360, t361, t362⟩ : S47), (⟨t363, t364, t365, t366⟩ : S47), t367⟩ : S67) ) (fun _ hk => hk); have hx12_0 := hcc12 0 _ rfl; (try simp only [show (k67).sz = 14 from rfl, Nat.mul_one, Nat.add_zero] at hx12_0); have hf12_0 := hfr12 0; (try simp only [show (k67).sz = 14 from rfl, Nat.mul_one, Nat.add_zero] at hf12_0); have hx12_1 := hcc12 1 _ rfl; (try simp only [show (k67).sz = 14 from rfl, Nat.mul_one, Nat.add_zero] at hx12_1); have hf12_1 := hfr12 1; (try simp only [show (k67).sz = 14 from rfl, Nat.mul_one, Nat.add_zero] at hf12_1); have hx12_2 := hcc12 2 _ rfl; (try simp only [show (k67).sz = 14 from rfl, Nat.mul_one, Nat.add_zero] at hx12_2); have hf12_2 := hfr12 2; (try simp only [show (k67).sz = 14 from rfl, Nat.mul_one, Nat.add_zero] at hf12_2); have hx12_3 := hcc12 3 _ rfl; (try simp only [show (k67).sz = 14 from rfl, Nat.mul_one, Nat.add_zero] at hx12_3); have hf12_3 := hfr12 3; (try simp only [show (k67).sz = 14 from rfl, Nat.mul_one, Nat.add_zero] at hf12_3); have hx12_4 := hcc12 4 _ rfl; (try simp only [show (k67).sz = 14 from rfl, Nat.mul_one, Nat.add_zero] at hx12_4); have hf12_4 := hfr12 4; (try simp only [show (k67).sz = 14 from rfl, Nat.mul_one, Nat.add_zero] at hf12_4); have hx12_5 := hcc12 5 _ rfl; (try simp only [show (k67).sz = 14 from rfl, Nat.mul_one, Nat.add_zero] at hx12_5); have hf12_5 := hfr12 5; (try simp only [show (k67).sz = 14 from rfl, Nat.mul_one, Nat.add_zero] at hf12_5); have hx12_6 := hcc12 6 _ rfl; (try simp only [show (k67).sz = 14 from rfl, Nat.mul_one, Nat.add_zero] at hx12_6); have hf12_6 := hfr12 6; (try simp only [show (k67).sz = 14 from rfl, Nat.mul_one, Nat.add_zero] at hf12_6); have hx12_7 := hcc12 7 _ rfl; (try simp only [show (k67).sz = 14 from rfl, Nat.mul_one, Nat.add_zero] at hx12_7); have hf12_7 := hfr12 7; (try simp only [show (k67).sz = 14 from rfl, Nat.mul_one, Nat.add_zero] at hf12_7); have hx12_8 := hcc12 8 _ rfl; (try simp only [show (k67).sz = 14 from rfl, Nat.mul_one, Nat.add_zero] at hx12_8); have hf12_8 := hfr12 8; (try simp only [show (k67).sz = 14 from rfl, Nat.mul_one, Nat.add_zero] at hf12_8); have hx12_9 := hcc12 9 _ rfl; (try simp only [show (k67).sz = 14 from rfl, Nat.mul_one, Nat.add_zero] at hx12_9); have hf12_9 := hfr12 9; (try simp only [show (k67).sz = 14 from rfl, Nat.mul_one, Nat.add_zero] at hf12_9); have hx12_10 := hcc12 10 _ rfl; (try simp only [show (k67).sz = 14 from rfl, Nat.mul_one, Nat.add_zero] at hx12_10); have hf12_10 := hfr12 10; (try simp only [show (k67).sz = 14 from rfl, Nat.mul_one, Nat.add_zero] at hf12_10); have hx12_11 := hcc12 11 _ rfl; (try simp only [show (k67).sz = 14 from rfl, Nat.mul_one, Nat.add_zero] at hx12_11); have hf12_11 := hfr12 11; (try simp only [show (k67).sz = 14 from rfl, Nat.mul_one, Nat.add_zero] at hf12_11); have hx12_12 := hcc12 12 _ rfl; (try simp only [show (k67).sz = 14 from rfl, Nat.mul_one, Nat.add_zero] at hx12_12); have hf12_12 := hfr12 12; (try simp only [show (k67).sz = 14 from rfl, Nat.mul_one, Nat.add_zero] at hf12_12); have hx12_13 := hcc12 13 _ rfl; (try simp only [show (k67).sz = 14 from rfl, Nat.mul_one, Nat.add_zero] at hx12_13); have hf12_13 := hfr12 13; (try simp only [show (k67).sz = 14 from rfl, Nat.mul_one, Nat.add_zero] at hf12_13); clear hcl12 hcc12 hfr12 hM12) | ((with_reducible refine gate_store (t := 67) (p := 21) rfl ?_); refine store_event (t := 67) (p := 21) (v := ?vo_w13) (w1 := ((((((((((((((w11.setCell ⟨go10, (x4_1 : Int).toNat * 14, none⟩ (.int .i64 t354)).setCell ⟨go10, (x4_1 : Int).toNat * 14 + 1, none⟩ (.string t355)).setCell ⟨go10, (x4_1 : Int).toNat * 14 + 2, none⟩ (.bool t356)).setCell ⟨go10, (x4_1 : Int).toNat * 14 + 3, none⟩ (.int .i64 t357)).setCell ⟨go10, (x4_1 : Int).toNat * 14 + 4, none⟩ (.int .i64 t358)).setCell ⟨go10, (x4_1 : Int).toNat * 14 + 5, none⟩ (.int .i64 t359)).setCell ⟨go10, (x4_1 : Int).toNat * 14 + 6, none⟩ (.int .i64 t360)).setCell ⟨go10, (x4_1 : Int).toNat * 14 + 7, none⟩ (.bool t361)).setCell ⟨go10, (x4_1 : Int).toNat * 14 + 8, none⟩ (.bool t362)).setCell ⟨go10, (x4_1 : Int).toNat * 14 + 9, none⟩ (.int .i64 t363)).setCell ⟨go10, (x4_1 : Int).toNat * 14 + 10, none⟩ (.int .i64 t364)).setCell ⟨go10, (x4_1 : Int).toNat * 14 + 11, none⟩ (.bool t365)).setCell ⟨go10, (x4_1 : Int).toNat * 14 + 12, none⟩ (.bool t366)).setCell ⟨go10, (x4_1 : Int).toNat * 14 + 13, none⟩ (.int .i64 t367))) ?hg ?ho ?hn ?hr ?_; (case ho => rfl); (case hg => rfl); (case hn => rfl); (case hr => first | (go_simp; done) | (go_simp; rfl)); intro w13 hw; have hg : w11.grownBy w13 (some go10) := (by rw [hw]; exact HP12.2); have hp_ : Kd.R k67 67 w13 w.heap.size (fun _ => True) (.slice (some ⟨go10, 0, none⟩) x3_1.length co10) y368 := (by rw [hw, Ny368.out]; exact HP12.1); clear HP12; have n0_ := Aside0.mk (hp_); have n1_ := Aside0.mk ((by rw [hw]; exact z8q (z8q (z8q (z8q (z8q (z8q (z8q (z8q (z8q (z8q (z8q (z8q (z8q (z8q (HB.out) GB10.out) GB10.out) GB10.out) GB10.out) GB10.out) GB10.out) GB10.out) GB10.out) GB10.out) GB10.out) GB10.out) GB10.out) GB10.out) GB10.out : Below w.heap.size w w13)); clear HO_3; clear HB; have HO_3 := n0_; have HB := n1_; clear n0_ n1_; clear hg hw hp_))
        go_roundg k1
        case measure => have := HK1.out; omega
        case rel => exact ⟨(y368), (wrap64 (x4_1 + 1)), (by first | rfl | (simp; done) | (simp [*]; done) | (simp; unfold wrap64; omega)), H', ⟨by have := HK1.out; omega⟩, ⟨by (with_reducible repeat (first | apply Kd.R_alloc | apply Kd.R_drewN | apply Kd.R_drew)); exact HO_3.out⟩, ⟨by repeat (first | (with_reducible first | exact HB.out | apply z2q | apply z3q | apply z4q) | exact HB.out)⟩⟩
       ·rw [if_neg c9] at H
        exact absurd H (by simp)
      ·rw [if_neg c7] at H
       exact absurd H (by simp)
     ·rw [if_neg c6] at H
      have c6b0 : decide (x4_1 < (l0.length : Int)) = false := decide_eq_false c6
      clear c6
      obtain rfl := Option.some.inj H
      go_wp2
      go_ret
      exact ⟨_, by first | rfl | (simp [errW_none, errW_some] <;> rfl) | (simp [*, errW_none, errW_some] <;> rfl), by (with_reducible repeat (first | apply Kd.R_alloc | apply Kd.R_drewN | apply Kd.R_drew)); exact HO_3.out, by repeat (first | (with_reducible first | exact HB.out | apply z2q | apply z3q | apply z4q) | exact HB.out)⟩
  ·rw [if_neg c3] at H
   exact absurd H (by simp)
 ·rw [if_neg c2] at H
  exact absurd H (by simp)



/-! ### impl_capitals: function 41 -/

set_option maxHeartbeats 4000000 in
theorem capitals_calls (s : ByteArray) (hs : s.size ≤ 1048576) (w : World) :
  Calls Tryz.prog 41 #[.string s] w fun e w' => e = .returned (.string (upS s)) ∧ Below w.heap.size w w' := by
 have hcv := conv_at s
 have hr := row_new s w
 have hb := below_bytes w s
 have HR := Lib.hid hr; have HB := Lib.hid hb; clear hr hb
 go_enter Tryz.func41, Tryz.ntmps41
 go_wp2_with fail
 go_loopw [9] (fun i w' => ∃ j : Nat, j ≤ s.size ∧ i = .int .i64 j ∧ Hid (Below w.heap.size w w') ∧ Hid (Row s w.heap.size w' (upTo s j))) (fun i _ => s.size - (intOf i).toNat)
 case atStart => exact ⟨0, Nat.zero_le _, rfl, HB.out, HR.out.same fun i => by simp [upTo]⟩
 case round =>
  obtain ⟨j, hj, rfl, hbw, hrow⟩ := hrel
  by_cases hlt : j < s.size
  ·have hcell := hrow.out.cell hlt
   have hfz := hrow.out.frozen hlt
   have e0 : upTo s j j = byI s j := by unfold upTo; rw [if_neg (by omega)]
   rw [e0] at hcell
   obtain ⟨v0, v1⟩ := byI_le s j
   have hput : ∀ i, i ≠ j → upTo s (j + 1) i = upTo s j i := fun i hi => by
    unfold upTo; by_cases h1 : i < j
    ·rw [if_pos h1, if_pos (by omega)]
    ·rw [if_neg h1, if_neg (by omega)]
   have hat : upTo s (j + 1) j = upI (byI s j) := by unfold upTo; rw [if_pos (by omega)]
   have HP := Lib.hid hput; have HA := Lib.hid hat; have HE0 := Lib.hid e0; clear hput hat e0
   by_cases h1 : 97 ≤ byI s j
   ·have b1 : decide (byI s j ≥ 97) = true := decide_eq_true h1
    by_cases h2 : byI s j ≤ 122
    ·have b2 : decide (byI s j ≤ 122) = true := decide_eq_true h2
     go_wp2_with fail
     go_roundw
     case rel => exact ⟨j + 1, by omega, by go_num, Below.setCell hbw.out (p := ⟨w.heap.size, j, none⟩) (Nat.le_refl _) _, hrow.out.put _ (by rw [HA.out]; unfold upI; rw [if_pos ⟨h1, h2⟩]) HP.out⟩
     case measure => simp [intOf]; omega
    ·have b2 : decide (byI s j ≤ 122) = false := decide_eq_false h2
     go_wp2_with fail
     go_roundw
     case rel => exact ⟨j + 1, by omega, by go_num, hbw.out, Row.same (f' := upTo s (j + 1)) hrow.out fun i => by
      by_cases e : i = j
      ·subst e; rw [HA.out, HE0.out]; unfold upI; rw [if_neg (by omega)]
      ·exact HP.out i e⟩
     case measure => simp [intOf]; omega
   ·have b1 : decide (byI s j ≥ 97) = false := decide_eq_false h1
    go_wp2_with fail
    go_roundw
    case rel => exact ⟨j + 1, by omega, by go_num, hbw.out, Row.same (f' := upTo s (j + 1)) hrow.out fun i => by
      by_cases e : i = j
      ·subst e; rw [HA.out, HE0.out]; unfold upI; rw [if_neg (by omega)]
      ·exact HP.out i e⟩
    case measure => simp [intOf]; omega
  ·obtain rfl : j = s.size := by omega
   have hcb := conv_back hrow.out (show s.size ≤ 9223372036854775807 by omega)
   have hup : strOfNums ((List.range s.size).map (upTo s s.size)) = upS s := by
    unfold upS; congr 1
    refine List.map_congr_left fun i hi => ?_
    unfold upTo; rw [if_pos (List.mem_range.1 hi)]
   rw [hup] at hcb
   clear hup
   go_wp2_with fail
   go_ret
   exact ⟨rfl, hbw.out⟩

def impl_capitals.f (a0 : ByteArray) : Option ByteArray := if a0.size ≤ 1048576 then some (upS a0) else none

theorem impl_capitals.calls (a0 : ByteArray) (r : ByteArray) (w : World) (h : impl_capitals.f a0 = some r) :
  Calls Tryz.prog 41 #[.string a0] w fun e w' => e = .returned (.string r) ∧ Below w.heap.size w w' := by
 unfold impl_capitals.f at h
 by_cases hs : a0.size ≤ 1048576
 ·rw [if_pos hs] at h
  obtain rfl := Option.some.inj h
  exact capitals_calls a0 hs w
 ·rw [if_neg hs] at h; cases h



/-! ### impl_Ref_place: function 61 -/

def impl_Ref_place.f (a0_0 : Int) (a0_1 : Int) (a0_2 : Bool) (a0_3 : Bool) : Option (Int × Int) := some (a0_0, a0_1)

set_option maxHeartbeats 8000000 in
set_option maxRecDepth 100000 in
theorem impl_Ref_place.calls (a0_0 : Int) (a0_1 : Int) (a0_2 : Bool) (a0_3 : Bool) (r1 : Int) (r2 : Int) (w : World) (h : impl_Ref_place.f a0_0 a0_1 a0_2 a0_3 = some (r1, r2)) :
  Calls Tryz.prog 61 #[.agg #[.int .i64 a0_0, .int .i64 a0_1, .bool a0_2, .bool a0_3]] w fun e w' => e = .returned (.agg #[.int .i64 r1, .int .i64 r2]) ∧ Below w.heap.size w w' := by
 have hu47 := Tryz.underlying47
 have hu88 := Tryz.underlying88
 have HB := Aside0.mk (Below.refl w.heap.size w)
 have H : (some (a0_0, a0_1)) = some (r1, r2) := h
 clear h
 simp only [Option.some.injEq, Prod.mk.injEq] at H
 obtain ⟨rfl, rfl⟩ := H
 go_enter Tryz.func61, Tryz.ntmps61
 go_wp2_with (first | ((with_reducible refine z17q (N := 1) rfl ?_); refine z16q ?hg (N := 1) ?hd (cs := #[.int .i64 a0_0, .int .i64 a0_1, .bool a0_2, .bool a0_3]) (t := 47) ?hr ?_; (case hd => rfl); (case hg => rfl); (case hr => first | (go_simp; done) | (go_simp; rfl)); intro gb372 hg w2 hbox hb; have n0_ := Aside0.mk (z6q (ibh HB.out) hb); have n1_ := Aside0.mk (hbox); have n2_ := Aside0.mk ((by rw [hg]; exact (z7q (ibh HB.out)) : w.heap.size ≤ gb372)); have n3_ := Aside0.mk ((by rw [hg]; exact (z7q (ibh HB.out)) : w.heap.size ≤ gb372)); clear HB; have HB := n0_; have BK372 := n1_; have GW372 := n2_; have GE372 := n3_; clear n0_ n1_ n2_ n3_; clear hb hbox hg) | ((with_reducible refine z17q (N := 2) rfl ?_); refine z16q ?hg (N := 2) ?hd (cs := #[.int .i64 0, .int .i64 0]) (t := 88) ?hr ?_; (case hd => rfl); (case hg => rfl); (case hr => first | (go_simp; done) | (go_simp; rfl)); intro gb373 hg w3 hbox hb; have n0_ := Aside0.mk (z15q (cy BK372.out) hb); have n1_ := Aside0.mk (z6q (ibh HB.out) hb); have n2_ := Aside0.mk (hbox); have n3_ := Aside0.mk ((by rw [hg]; exact (z7q (ibh HB.out)) : w.heap.size ≤ gb373)); have n4_ := Aside0.mk ((by rw [hg]; exact (z7q (ibh HB.out)) : w.heap.size ≤ gb373)); have n5_ := Aside0.mk ((by rw [hg]; exact Nat.ne_of_lt (z21q (cy BK372.out)) : gb372 ≠ gb373)); have n6_ := Aside0.mk ((by rw [hg]; exact Nat.ne_of_gt (z21q (cy BK372.out)) : gb373 ≠ gb372)); clear BK372; clear HB; have BK372 := n0_; have HB := n1_; have BK373 := n2_; have GW373 := n3_; have GE373 := n4_; have NB372_373 := n5_; have NB373_372 := n6_; clear n0_ n1_ n2_ n3_ n4_ n5_ n6_; clear hb hbox hg; have hnb4 := NB372_373.out; have hnc4 := NB373_372.out; obtain ⟨hcz5_0, hcz5_1, hcz5_2, hcz5_3, hfz5_0, hfz5_1, hfz5_2, hfz5_3⟩ := cr4 (w := w3) (g := gb372) BK372.out; obtain ⟨hcz6_0, hcz6_1, hfz6_0, hfz6_1⟩ := cr2 (w := w3) (g := gb373) BK373.out))
 refine bodyPost_ret (results_cell_row rfl _ _ gb373 88 #[.int .i64 a0_0, .int .i64 a0_1] (0, 0) _ rfl (by refine cz ?_; refine z9q (cs := #[.int .i64 a0_0, .int .i64 0]) ?_ 1 _ rfl; refine cz ?_; refine z9q (cs := #[.int .i64 0, .int .i64 0]) ?_ 0 _ rfl; exact cy BK373.out) Tryz.underlying88 rfl (by kernel_rfl)) rfl ?_
 exact ⟨by first | rfl | (simp [errW_none, errW_some] <;> rfl) | (simp [*, errW_none, errW_some] <;> rfl), by repeat (first | (with_reducible first | exact HB.out | apply z2q | apply z3q | apply z4q | refine z8q ?_ GE372.out | refine z8q ?_ GE373.out) | exact HB.out)⟩



/-! ### impl_place_good: function 78 -/

def impl_place_good.f (a0_0 : Int) (a0_1 : Int) : Option (Bool) := if a0_0 ≥ 1 then (if a0_0 ≤ 1000 then (if a0_1 ≥ 1 then (some (decide (a0_1 ≤ 200))) else (some false)) else (some false)) else (some false)

set_option maxHeartbeats 8000000 in
set_option maxRecDepth 100000 in
theorem impl_place_good.calls (a0_0 : Int) (a0_1 : Int) (r : Bool) (w : World) (h : impl_place_good.f a0_0 a0_1 = some r) :
  Calls Tryz.prog 78 #[.agg #[.int .i64 a0_0, .int .i64 a0_1]] w fun e w' => e = .returned (.bool r) ∧ Below w.heap.size w w' := by
 have hu88 := Tryz.underlying88
 have HB := Aside0.mk (Below.refl w.heap.size w)
 have H : (if a0_0 ≥ 1 then (if a0_0 ≤ 1000 then (if a0_1 ≥ 1 then (some (decide (a0_1 ≤ 200))) else (some false)) else (some false)) else (some false)) = some r := h
 clear h
 by_cases c2 : a0_0 ≥ 1
 ·rw [if_pos c2] at H
  have c2b0 : decide (1 ≤ a0_0) = true := decide_eq_true c2
  clear c2
  by_cases c3 : a0_0 ≤ 1000
  ·rw [if_pos c3] at H
   have c3b0 : decide (a0_0 ≤ 1000) = true := decide_eq_true c3
   clear c3
   by_cases c4 : a0_1 ≥ 1
   ·rw [if_pos c4] at H
    have c4b0 : decide (1 ≤ a0_1) = true := decide_eq_true c4
    clear c4
    obtain rfl := Option.some.inj H
    go_enter Tryz.func78, Tryz.ntmps78
    go_wp2_with (first | ((with_reducible refine z17q (N := 1) rfl ?_); refine z16q ?hg (N := 1) ?hd (cs := #[.int .i64 a0_0, .int .i64 a0_1]) (t := 88) ?hr ?_; (case hd => rfl); (case hg => rfl); (case hr => first | (go_simp; done) | (go_simp; rfl)); intro gb374 hg w5 hbox hb; have n0_ := Aside0.mk (z6q (ibh HB.out) hb); have n1_ := Aside0.mk (hbox); have n2_ := Aside0.mk ((by rw [hg]; exact (z7q (ibh HB.out)) : w.heap.size ≤ gb374)); have n3_ := Aside0.mk ((by rw [hg]; exact (z7q (ibh HB.out)) : w.heap.size ≤ gb374)); clear HB; have HB := n0_; have BK374 := n1_; have GW374 := n2_; have GE374 := n3_; clear n0_ n1_ n2_ n3_; clear hb hbox hg; obtain ⟨hcz6_0, hcz6_1, hfz6_0, hfz6_1⟩ := cr2 (w := w5) (g := gb374) BK374.out))
    go_ret
    exact ⟨by first | rfl | (simp [errW_none, errW_some] <;> rfl) | (simp [*, errW_none, errW_some] <;> rfl), by repeat (first | (with_reducible first | exact HB.out | apply z2q | apply z3q | apply z4q | refine z8q ?_ GE374.out) | exact HB.out)⟩
   ·rw [if_neg c4] at H
    have c4b0 : decide (1 ≤ a0_1) = false := decide_eq_false c4
    clear c4
    obtain rfl := Option.some.inj H
    go_enter Tryz.func78, Tryz.ntmps78
    go_wp2_with (first | ((with_reducible refine z17q (N := 1) rfl ?_); refine z16q ?hg (N := 1) ?hd (cs := #[.int .i64 a0_0, .int .i64 a0_1]) (t := 88) ?hr ?_; (case hd => rfl); (case hg => rfl); (case hr => first | (go_simp; done) | (go_simp; rfl)); intro gb374 hg w7 hbox hb; have n0_ := Aside0.mk (z6q (ibh HB.out) hb); have n1_ := Aside0.mk (hbox); have n2_ := Aside0.mk ((by rw [hg]; exact (z7q (ibh HB.out)) : w.heap.size ≤ gb374)); have n3_ := Aside0.mk ((by rw [hg]; exact (z7q (ibh HB.out)) : w.heap.size ≤ gb374)); clear HB; have HB := n0_; have BK374 := n1_; have GW374 := n2_; have GE374 := n3_; clear n0_ n1_ n2_ n3_; clear hb hbox hg; obtain ⟨hcz8_0, hcz8_1, hfz8_0, hfz8_1⟩ := cr2 (w := w7) (g := gb374) BK374.out))
    go_ret
    exact ⟨by first | rfl | (simp [errW_none, errW_some] <;> rfl) | (simp [*, errW_none, errW_some] <;> rfl), by repeat (first | (with_reducible first | exact HB.out | apply z2q | apply z3q | apply z4q | refine z8q ?_ GE374.out) | exact HB.out)⟩
  ·rw [if_neg c3] at H
   have c3b0 : decide (a0_0 ≤ 1000) = false := decide_eq_false c3
   clear c3
   obtain rfl := Option.some.inj H
   go_enter Tryz.func78, Tryz.ntmps78
   go_wp2_with (first | ((with_reducible refine z17q (N := 1) rfl ?_); refine z16q ?hg (N := 1) ?hd (cs := #[.int .i64 a0_0, .int .i64 a0_1]) (t := 88) ?hr ?_; (case hd => rfl); (case hg => rfl); (case hr => first | (go_simp; done) | (go_simp; rfl)); intro gb374 hg w9 hbox hb; have n0_ := Aside0.mk (z6q (ibh HB.out) hb); have n1_ := Aside0.mk (hbox); have n2_ := Aside0.mk ((by rw [hg]; exact (z7q (ibh HB.out)) : w.heap.size ≤ gb374)); have n3_ := Aside0.mk ((by rw [hg]; exact (z7q (ibh HB.out)) : w.heap.size ≤ gb374)); clear HB; have HB := n0_; have BK374 := n1_; have GW374 := n2_; have GE374 := n3_; clear n0_ n1_ n2_ n3_; clear hb hbox hg; obtain ⟨hcz10_0, hcz10_1, hfz10_0, hfz10_1⟩ := cr2 (w := w9) (g := gb374) BK374.out))
   go_ret
   exact ⟨by first | rfl | (simp [errW_none, errW_some] <;> rfl) | (simp [*, errW_none, errW_some] <;> rfl), by repeat (first | (with_reducible first | exact HB.out | apply z2q | apply z3q | apply z4q | refine z8q ?_ GE374.out) | exact HB.out)⟩
 ·rw [if_neg c2] at H
  have c2b0 : decide (1 ≤ a0_0) = false := decide_eq_false c2
  clear c2
  obtain rfl := Option.some.inj H
  go_enter Tryz.func78, Tryz.ntmps78
  go_wp2_with (first | ((with_reducible refine z17q (N := 1) rfl ?_); refine z16q ?hg (N := 1) ?hd (cs := #[.int .i64 a0_0, .int .i64 a0_1]) (t := 88) ?hr ?_; (case hd => rfl); (case hg => rfl); (case hr => first | (go_simp; done) | (go_simp; rfl)); intro gb374 hg w11 hbox hb; have n0_ := Aside0.mk (z6q (ibh HB.out) hb); have n1_ := Aside0.mk (hbox); have n2_ := Aside0.mk ((by rw [hg]; exact (z7q (ibh HB.out)) : w.heap.size ≤ gb374)); have n3_ := Aside0.mk ((by rw [hg]; exact (z7q (ibh HB.out)) : w.heap.size ≤ gb374)); clear HB; have HB := n0_; have BK374 := n1_; have GW374 := n2_; have GE374 := n3_; clear n0_ n1_ n2_ n3_; clear hb hbox hg; obtain ⟨hcz12_0, hcz12_1, hfz12_0, hfz12_1⟩ := cr2 (w := w11) (g := gb374) BK374.out))
  go_ret
  exact ⟨by first | rfl | (simp [errW_none, errW_some] <;> rfl) | (simp [*, errW_none, errW_some] <;> rfl), by repeat (first | (with_reducible first | exact HB.out | apply z2q | apply z3q | apply z4q | refine z8q ?_ GE374.out) | exact HB.out)⟩



/-! ### impl_GoodRef: function 49 -/

def impl_GoodRef.f (a0_0 : Int) (a0_1 : Int) (a0_2 : Bool) (a0_3 : Bool) : Option (Bool) := (impl_Ref_place.f a0_0 a0_1 a0_2 a0_3).bind fun bt376 => ((impl_place_good.f bt376.1 bt376.2).bind fun t378 => (some t378))

set_option maxHeartbeats 8000000 in
set_option maxRecDepth 100000 in
theorem impl_GoodRef.calls (a0_0 : Int) (a0_1 : Int) (a0_2 : Bool) (a0_3 : Bool) (r : Bool) (w : World) (h : impl_GoodRef.f a0_0 a0_1 a0_2 a0_3 = some r) :
  Calls Tryz.prog 49 #[.agg #[.int .i64 a0_0, .int .i64 a0_1, .bool a0_2, .bool a0_3]] w fun e w' => e = .returned (.bool r) ∧ Below w.heap.size w w' := by
 have hu47 := Tryz.underlying47
 have HB := Aside0.mk (Below.refl w.heap.size w)
 have H : ((impl_Ref_place.f a0_0 a0_1 a0_2 a0_3).bind fun bt376 => ((impl_place_good.f bt376.1 bt376.2).bind fun t378 => (some t378))) = some r := h
 clear h
 replace H := Option.bind_eq_some_iff.mp H
 obtain ⟨⟨t376, t377⟩, A20, H⟩ := H
 replace H : ((impl_place_good.f t376 t377).bind fun t378 => (some t378)) = some r := H
 have A2 := Aside0.mk A20
 clear A20
 replace H := Option.bind_eq_some_iff.mp H
 obtain ⟨t378, A30, H⟩ := H
 replace H : (some t378) = some r := H
 have A3 := Aside0.mk A30
 clear A30
 obtain rfl := Option.some.inj H
 go_enter Tryz.func49, Tryz.ntmps49
 go_wp2_with (first | ((with_reducible refine z17q (N := 1) rfl ?_); refine z16q ?hg (N := 1) ?hd (cs := #[.int .i64 a0_0, .int .i64 a0_1, .bool a0_2, .bool a0_3]) (t := 47) ?hr ?_; (case hd => rfl); (case hg => rfl); (case hr => first | (go_simp; done) | (go_simp; rfl)); intro gb375 hg w4 hbox hb; have n0_ := Aside0.mk (z6q (ibh HB.out) hb); have n1_ := Aside0.mk (hbox); have n2_ := Aside0.mk ((by rw [hg]; exact (z7q (ibh HB.out)) : w.heap.size ≤ gb375)); have n3_ := Aside0.mk ((by rw [hg]; exact (z7q (ibh HB.out)) : w.heap.size ≤ gb375)); clear HB; have HB := n0_; have BK375 := n1_; have GW375 := n2_; have GE375 := n3_; clear n0_ n1_ n2_ n3_; clear hb hbox hg; obtain ⟨hcz5_0, hcz5_1, hcz5_2, hcz5_3, hfz5_0, hfz5_1, hfz5_2, hfz5_3⟩ := cr4 (w := w4) (g := gb375) BK375.out) | ((with_reducible refine z14q (f := 61) rfl ?_); refine z20q (some 4) rfl rfl Tryz.func61 (by kernel_rfl) rfl #[.agg #[.int .i64 a0_0, .int .i64 a0_1, .bool a0_2, .bool a0_3]] rfl (by (try simp only [map_toArray, map_cons, map_nil]); first | done | rfl | (simp only [length_drop, length_take]; rfl)) ?_; (with_reducible refine (impl_Ref_place.calls a0_0 a0_1 a0_2 a0_3 t376 t377 _ A2.out).mono ?_); rintro e w6 ⟨rfl, hb⟩; refine ⟨_, rfl, ?_⟩; have n0_ := Aside0.mk (z15q (cy BK375.out) hb); have n1_ := Aside0.mk (z6q (ibh HB.out) hb); clear BK375; clear HB; have BK375 := n0_; have HB := n1_; clear n0_ n1_; (try clear hb); (try clear hb2); (try clear hk); (try clear hi)) | ((with_reducible refine z14q (f := 78) rfl ?_); refine z20q (some 5) rfl rfl Tryz.func78 (by kernel_rfl) rfl #[.agg #[.int .i64 t376, .int .i64 t377]] rfl (by (try simp only [map_toArray, map_cons, map_nil]); first | done | rfl | (simp only [length_drop, length_take]; rfl)) ?_; (with_reducible refine (impl_place_good.calls t376 t377 t378 _ A3.out).mono ?_); rintro e w7 ⟨rfl, hb⟩; refine ⟨_, rfl, ?_⟩; have n0_ := Aside0.mk (z15q (cy BK375.out) hb); have n1_ := Aside0.mk (z6q (ibh HB.out) hb); clear BK375; clear HB; have BK375 := n0_; have HB := n1_; clear n0_ n1_; (try clear hb); (try clear hb2); (try clear hk); (try clear hi)))
 go_ret
 exact ⟨by first | rfl | (simp [errW_none, errW_some] <;> rfl) | (simp [*, errW_none, errW_some] <;> rfl), by repeat (first | (with_reducible first | exact HB.out | apply z2q | apply z3q | apply z4q | refine z8q ?_ GE375.out) | exact HB.out)⟩



/-! ### impl_isGoodDec: function 95 -/

def impl_isGoodDec.f (a0_0 : Bool) (a0_1 : Int) (a0_2 : Int) : Option (Bool) := if (!a0_0 && (a0_1 == 0 && (a0_2 == 0))) = true then (some true) else (if a0_1 ≥ 1 then (if a0_1 ≤ 999999999999999 then (if (Int.tmod a0_1 10) = 0 then (some false) else (if a0_2 ≥ (-300) then (some (decide (a0_2 ≤ 300))) else (some false))) else (some false)) else (some false))

set_option maxHeartbeats 8000000 in
set_option maxRecDepth 100000 in
theorem impl_isGoodDec.calls (a0_0 : Bool) (a0_1 : Int) (a0_2 : Int) (r : Bool) (w : World) (h : impl_isGoodDec.f a0_0 a0_1 a0_2 = some r) :
  Calls Tryz.prog 95 #[.agg #[.bool a0_0, .int .i64 a0_1, .int .i64 a0_2]] w fun e w' => e = .returned (.bool r) ∧ Below w.heap.size w w' := by
 have hu65 := Tryz.underlying65
 have HB := Aside0.mk (Below.refl w.heap.size w)
 have H : (if (!a0_0 && (a0_1 == 0 && (a0_2 == 0))) = true then (some true) else (if a0_1 ≥ 1 then (if a0_1 ≤ 999999999999999 then (if (Int.tmod a0_1 10) = 0 then (some false) else (if a0_2 ≥ (-300) then (some (decide (a0_2 ≤ 300))) else (some false))) else (some false)) else (some false))) = some r := h
 clear h
 by_cases c2 : (!a0_0 && (a0_1 == 0 && (a0_2 == 0))) = true
 ·rw [if_pos c2] at H
  have c2b0 : (!a0_0 && (a0_1 == 0 && (a0_2 == 0))) = true := c2
  clear c2
  obtain rfl := Option.some.inj H
  go_enter Tryz.func95, Tryz.ntmps95
  go_wp2_with (first | ((with_reducible refine z17q (N := 1) rfl ?_); refine z16q ?hg (N := 1) ?hd (cs := #[.bool a0_0, .int .i64 a0_1, .int .i64 a0_2]) (t := 65) ?hr ?_; (case hd => rfl); (case hg => rfl); (case hr => first | (go_simp; done) | (go_simp; rfl)); intro gb379 hg w3 hbox hb; have n0_ := Aside0.mk (z6q (ibh HB.out) hb); have n1_ := Aside0.mk (hbox); have n2_ := Aside0.mk ((by rw [hg]; exact (z7q (ibh HB.out)) : w.heap.size ≤ gb379)); have n3_ := Aside0.mk ((by rw [hg]; exact (z7q (ibh HB.out)) : w.heap.size ≤ gb379)); clear HB; have HB := n0_; have BK379 := n1_; have GW379 := n2_; have GE379 := n3_; clear n0_ n1_ n2_ n3_; clear hb hbox hg; obtain ⟨hcz4_0, hcz4_1, hcz4_2, hfz4_0, hfz4_1, hfz4_2⟩ := cr3 (w := w3) (g := gb379) BK379.out))
  go_ret
  exact ⟨by first | rfl | (simp [errW_none, errW_some] <;> rfl) | (simp [*, errW_none, errW_some] <;> rfl), by repeat (first | (with_reducible first | exact HB.out | apply z2q | apply z3q | apply z4q | refine z8q ?_ GE379.out) | exact HB.out)⟩
 ·rw [if_neg c2] at H
  have c2b0 : (!a0_0 && (a0_1 == 0 && (a0_2 == 0))) = false := by simpa using c2
  clear c2
  by_cases c5 : a0_1 ≥ 1
  ·rw [if_pos c5] at H
   have c5b0 : decide (1 ≤ a0_1) = true := decide_eq_true c5
   clear c5
   by_cases c6 : a0_1 ≤ 999999999999999
   ·rw [if_pos c6] at H
    have c6b0 : decide (a0_1 ≤ 999999999999999) = true := decide_eq_true c6
    clear c6
    by_cases c7 : (Int.tmod a0_1 10) = 0
    ·rw [if_pos c7] at H
     have c7b0 : ((Int.tmod a0_1 10) == 0) = true := beq_iff_eq.mpr c7
     have c7b1 : ((Int.tmod a0_1 10) != 0) = false := bne_eq_false_iff_eq.mpr c7
     clear c7
     obtain rfl := Option.some.inj H
     go_enter Tryz.func95, Tryz.ntmps95
     go_wp2_with (first | ((with_reducible refine z17q (N := 1) rfl ?_); refine z16q ?hg (N := 1) ?hd (cs := #[.bool a0_0, .int .i64 a0_1, .int .i64 a0_2]) (t := 65) ?hr ?_; (case hd => rfl); (case hg => rfl); (case hr => first | (go_simp; done) | (go_simp; rfl)); intro gb379 hg w8 hbox hb; have n0_ := Aside0.mk (z6q (ibh HB.out) hb); have n1_ := Aside0.mk (hbox); have n2_ := Aside0.mk ((by rw [hg]; exact (z7q (ibh HB.out)) : w.heap.size ≤ gb379)); have n3_ := Aside0.mk ((by rw [hg]; exact (z7q (ibh HB.out)) : w.heap.size ≤ gb379)); clear HB; have HB := n0_; have BK379 := n1_; have GW379 := n2_; have GE379 := n3_; clear n0_ n1_ n2_ n3_; clear hb hbox hg; obtain ⟨hcz9_0, hcz9_1, hcz9_2, hfz9_0, hfz9_1, hfz9_2⟩ := cr3 (w := w8) (g := gb379) BK379.out))
     go_ret
     exact ⟨by first | rfl | (simp [errW_none, errW_some] <;> rfl) | (simp [*, errW_none, errW_some] <;> rfl), by repeat (first | (with_reducible first | exact HB.out | apply z2q | apply z3q | apply z4q | refine z8q ?_ GE379.out) | exact HB.out)⟩
    ·rw [if_neg c7] at H
     have c7b0 : ((Int.tmod a0_1 10) == 0) = false := beq_eq_false_iff_ne.mpr c7
     have c7b1 : ((Int.tmod a0_1 10) != 0) = true := bne_iff_ne.mpr c7
     by_cases c10 : a0_2 ≥ (-300)
     ·rw [if_pos c10] at H
      have c10b0 : decide ((-300) ≤ a0_2) = true := decide_eq_true c10
      clear c10
      obtain rfl := Option.some.inj H
      go_enter Tryz.func95, Tryz.ntmps95
      go_wp2_with (first | ((with_reducible refine z17q (N := 1) rfl ?_); refine z16q ?hg (N := 1) ?hd (cs := #[.bool a0_0, .int .i64 a0_1, .int .i64 a0_2]) (t := 65) ?hr ?_; (case hd => rfl); (case hg => rfl); (case hr => first | (go_simp; done) | (go_simp; rfl)); intro gb379 hg w11 hbox hb; have n0_ := Aside0.mk (z6q (ibh HB.out) hb); have n1_ := Aside0.mk (hbox); have n2_ := Aside0.mk ((by rw [hg]; exact (z7q (ibh HB.out)) : w.heap.size ≤ gb379)); have n3_ := Aside0.mk ((by rw [hg]; exact (z7q (ibh HB.out)) : w.heap.size ≤ gb379)); clear HB; have HB := n0_; have BK379 := n1_; have GW379 := n2_; have GE379 := n3_; clear n0_ n1_ n2_ n3_; clear hb hbox hg; obtain ⟨hcz12_0, hcz12_1, hcz12_2, hfz12_0, hfz12_1, hfz12_2⟩ := cr3 (w := w11) (g := gb379) BK379.out))
      go_ret
      exact ⟨by first | rfl | (simp [errW_none, errW_some] <;> rfl) | (simp [*, errW_none, errW_some] <;> rfl), by repeat (first | (with_reducible first | exact HB.out | apply z2q | apply z3q | apply z4q | refine z8q ?_ GE379.out) | exact HB.out)⟩
     ·rw [if_neg c10] at H
      have c10b0 : decide ((-300) ≤ a0_2) = false := decide_eq_false c10
      clear c10
      obtain rfl := Option.some.inj H
      go_enter Tryz.func95, Tryz.ntmps95
      go_wp2_with (first | ((with_reducible refine z17q (N := 1) rfl ?_); refine z16q ?hg (N := 1) ?hd (cs := #[.bool a0_0, .int .i64 a0_1, .int .i64 a0_2]) (t := 65) ?hr ?_; (case hd => rfl); (case hg => rfl); (case hr => first | (go_simp; done) | (go_simp; rfl)); intro gb379 hg w13 hbox hb; have n0_ := Aside0.mk (z6q (ibh HB.out) hb); have n1_ := Aside0.mk (hbox); have n2_ := Aside0.mk ((by rw [hg]; exact (z7q (ibh HB.out)) : w.heap.size ≤ gb379)); have n3_ := Aside0.mk ((by rw [hg]; exact (z7q (ibh HB.out)) : w.heap.size ≤ gb379)); clear HB; have HB := n0_; have BK379 := n1_; have GW379 := n2_; have GE379 := n3_; clear n0_ n1_ n2_ n3_; clear hb hbox hg; obtain ⟨hcz14_0, hcz14_1, hcz14_2, hfz14_0, hfz14_1, hfz14_2⟩ := cr3 (w := w13) (g := gb379) BK379.out))
      go_ret
      exact ⟨by first | rfl | (simp [errW_none, errW_some] <;> rfl) | (simp [*, errW_none, errW_some] <;> rfl), by repeat (first | (with_reducible first | exact HB.out | apply z2q | apply z3q | apply z4q | refine z8q ?_ GE379.out) | exact HB.out)⟩
   ·rw [if_neg c6] at H
    have c6b0 : decide (a0_1 ≤ 999999999999999) = false := decide_eq_false c6
    clear c6
    obtain rfl := Option.some.inj H
    go_enter Tryz.func95, Tryz.ntmps95
    go_wp2_with (first | ((with_reducible refine z17q (N := 1) rfl ?_); refine z16q ?hg (N := 1) ?hd (cs := #[.bool a0_0, .int .i64 a0_1, .int .i64 a0_2]) (t := 65) ?hr ?_; (case hd => rfl); (case hg => rfl); (case hr => first | (go_simp; done) | (go_simp; rfl)); intro gb379 hg w15 hbox hb; have n0_ := Aside0.mk (z6q (ibh HB.out) hb); have n1_ := Aside0.mk (hbox); have n2_ := Aside0.mk ((by rw [hg]; exact (z7q (ibh HB.out)) : w.heap.size ≤ gb379)); have n3_ := Aside0.mk ((by rw [hg]; exact (z7q (ibh HB.out)) : w.heap.size ≤ gb379)); clear HB; have HB := n0_; have BK379 := n1_; have GW379 := n2_; have GE379 := n3_; clear n0_ n1_ n2_ n3_; clear hb hbox hg; obtain ⟨hcz16_0, hcz16_1, hcz16_2, hfz16_0, hfz16_1, hfz16_2⟩ := cr3 (w := w15) (g := gb379) BK379.out))
    go_ret
    exact ⟨by first | rfl | (simp [errW_none, errW_some] <;> rfl) | (simp [*, errW_none, errW_some] <;> rfl), by repeat (first | (with_reducible first | exact HB.out | apply z2q | apply z3q | apply z4q | refine z8q ?_ GE379.out) | exact HB.out)⟩
  ·rw [if_neg c5] at H
   have c5b0 : decide (1 ≤ a0_1) = false := decide_eq_false c5
   clear c5
   obtain rfl := Option.some.inj H
   go_enter Tryz.func95, Tryz.ntmps95
   go_wp2_with (first | ((with_reducible refine z17q (N := 1) rfl ?_); refine z16q ?hg (N := 1) ?hd (cs := #[.bool a0_0, .int .i64 a0_1, .int .i64 a0_2]) (t := 65) ?hr ?_; (case hd => rfl); (case hg => rfl); (case hr => first | (go_simp; done) | (go_simp; rfl)); intro gb379 hg w17 hbox hb; have n0_ := Aside0.mk (z6q (ibh HB.out) hb); have n1_ := Aside0.mk (hbox); have n2_ := Aside0.mk ((by rw [hg]; exact (z7q (ibh HB.out)) : w.heap.size ≤ gb379)); have n3_ := Aside0.mk ((by rw [hg]; exact (z7q (ibh HB.out)) : w.heap.size ≤ gb379)); clear HB; have HB := n0_; have BK379 := n1_; have GW379 := n2_; have GE379 := n3_; clear n0_ n1_ n2_ n3_; clear hb hbox hg; obtain ⟨hcz18_0, hcz18_1, hcz18_2, hfz18_0, hfz18_1, hfz18_2⟩ := cr3 (w := w17) (g := gb379) BK379.out))
   go_ret
   exact ⟨by first | rfl | (simp [errW_none, errW_some] <;> rfl) | (simp [*, errW_none, errW_some] <;> rfl), by repeat (first | (with_reducible first | exact HB.out | apply z2q | apply z3q | apply z4q | refine z8q ?_ GE379.out) | exact HB.out)⟩



/-! ### impl_plainText: function 96 -/

def impl_plainText.l0 : Nat → ByteArray → Int → Option (Bool)
 | 0, _, _ => none
 | k + 1, x0, x5 => if x5 < (x0.size : Int) then (if 0 ≤ x5 then (if (bt x0 x5) < 32 then (some false) else (if (bt x0 x5) > 126 then (some false) else (impl_plainText.l0 k x0 (wrap64 (x5 + 1))))) else (none)) else (some true)

def impl_plainText.f (k : Nat) (a0 : ByteArray) (a1 : Int) : Option (Bool) := if (a0.size : Int) > a1 then (some false) else (impl_plainText.l0 k a0 0)

set_option maxHeartbeats 8000000 in
set_option maxRecDepth 100000 in
theorem impl_plainText.calls (k : Nat) (a0 : ByteArray) (a1 : Int) (r : Bool) (w : World) (h : impl_plainText.f k a0 a1 = some r) :
  Calls Tryz.prog 96 #[.string a0, .int .i64 a1] w fun e w' => e = .returned (.bool r) ∧ Drawn0 w w' := by
 have H : (if (a0.size : Int) > a1 then (some false) else (impl_plainText.l0 k a0 0)) = some r := h
 clear h
 by_cases c3 : (a0.size : Int) > a1
 ·rw [if_pos c3] at H
  have c3b0 : decide (a1 < (a0.size : Int)) = true := decide_eq_true c3
  clear c3
  obtain rfl := Option.some.inj H
  go_enter Tryz.func96, Tryz.ntmps96
  go_wp2
  go_ret
  exact ⟨by first | rfl | (simp; done) | (simp [*]; done), by repeat (first | exact Drawn0.refl _ | apply Drawn0.step)⟩
 ·rw [if_neg c3] at H
  have c3b0 : decide (a1 < (a0.size : Int)) = false := decide_eq_false c3
  clear c3
  have H' := Aside0.mk H
  clear H
  go_enter Tryz.func96, Tryz.ntmps96
  go_wp2
  go_loopg [5] k (fun kq v5 w' => ∃ (x5_1 : Int), v5 = .int .i64 x5_1 ∧ Aside0 (impl_plainText.l0 kq a0 x5_1 = some r) ∧ Aside0 (kq ≤ k) ∧ Drawn0 w w')
  case atStart => exact ⟨(0), (by first | rfl | (simp; done) | (simp [*]; done) | (simp; unfold wrap64; omega)), H', ⟨Nat.le_refl _⟩, by repeat (first | exact Drawn0.refl _ | apply Drawn0.step)⟩
  case round =>
   clear H'
   try clear p2
   try clear c3
   try clear c3b0
   obtain ⟨x5_1, rfl, HA, HK1, ⟨m1, rfl⟩⟩ := hrel
   cases gk with
   | zero => exact absurd HA.out (by simp [impl_plainText.l0])
   | succ k1 =>
    have H := HA.out
    clear HA
    simp only [impl_plainText.l0] at H
    by_cases c4 : x5_1 < (a0.size : Int)
    ·rw [if_pos c4] at H
     have c4b0 : decide (x5_1 < (a0.size : Int)) = true := decide_eq_true c4
     clear c4
     by_cases c5 : 0 ≤ x5_1
     ·rw [if_pos c5] at H
      have c5b0 : decide (0 ≤ x5_1) = true := decide_eq_true c5
      clear c5
      by_cases c7 : (bt a0 x5_1) < 32
      ·rw [if_pos c7] at H
       have c7b0 : decide ((bt a0 x5_1) < 32) = true := decide_eq_true c7
       clear c7
       obtain rfl := Option.some.inj H
       have p6 : 0 ≤ (x5_1 : Int) := of_decide_eq_true (by first | (with_reducible assumption) | assumption)
       have q6 : x5_1 < (a0.size : Int) := of_decide_eq_true (by first | (with_reducible assumption) | assumption)
       have hx6 := bt_at a0 x5_1
       replace p6 := eq_true p6
       replace q6 := eq_true q6
       go_wp2
       go_ret
       exact ⟨by first | rfl | (simp; done) | (simp [*]; done), by repeat (first | exact Drawn0.refl _ | apply Drawn0.step)⟩
      ·rw [if_neg c7] at H
       have c7b0 : decide ((bt a0 x5_1) < 32) = false := decide_eq_false c7
       clear c7
       by_cases c9 : (bt a0 x5_1) > 126
       ·rw [if_pos c9] at H
        have c9b0 : decide (126 < (bt a0 x5_1)) = true := decide_eq_true c9
        clear c9
        obtain rfl := Option.some.inj H
        have p6 : 0 ≤ (x5_1 : Int) := of_decide_eq_true (by first | (with_reducible assumption) | assumption)
        have q6 : x5_1 < (a0.size : Int) := of_decide_eq_true (by first | (with_reducible assumption) | assumption)
        have hx6 := bt_at a0 x5_1
        replace p6 := eq_true p6
        replace q6 := eq_true q6
        have p8 : 0 ≤ (x5_1 : Int) := of_decide_eq_true (by first | (with_reducible assumption) | assumption)
        have q8 : x5_1 < (a0.size : Int) := of_decide_eq_true (by first | (with_reducible assumption) | assumption)
        have hx8 := bt_at a0 x5_1
        replace p8 := eq_true p8
        replace q8 := eq_true q8
        go_wp2
        go_ret
        exact ⟨by first | rfl | (simp; done) | (simp [*]; done), by repeat (first | exact Drawn0.refl _ | apply Drawn0.step)⟩
       ·rw [if_neg c9] at H
        have c9b0 : decide (126 < (bt a0 x5_1)) = false := decide_eq_false c9
        clear c9
        have H' := Aside0.mk H
        clear H
        have p6 : 0 ≤ (x5_1 : Int) := of_decide_eq_true (by first | (with_reducible assumption) | assumption)
        have q6 : x5_1 < (a0.size : Int) := of_decide_eq_true (by first | (with_reducible assumption) | assumption)
        have hx6 := bt_at a0 x5_1
        replace p6 := eq_true p6
        replace q6 := eq_true q6
        have p8 : 0 ≤ (x5_1 : Int) := of_decide_eq_true (by first | (with_reducible assumption) | assumption)
        have q8 : x5_1 < (a0.size : Int) := of_decide_eq_true (by first | (with_reducible assumption) | assumption)
        have hx8 := bt_at a0 x5_1
        replace p8 := eq_true p8
        replace q8 := eq_true q8
        go_wp2
        go_roundg k1
        case measure => have := HK1.out; omega
        case rel => exact ⟨(wrap64 (x5_1 + 1)), (by first | rfl | (simp; done) | (simp [*]; done) | (simp; unfold wrap64; omega)), H', ⟨by have := HK1.out; omega⟩, by repeat (first | exact Drawn0.refl _ | apply Drawn0.step)⟩
     ·rw [if_neg c5] at H
      exact absurd H (by simp)
    ·rw [if_neg c4] at H
     have c4b0 : decide (x5_1 < (a0.size : Int)) = false := decide_eq_false c4
     clear c4
     obtain rfl := Option.some.inj H
     go_wp2
     go_ret
     exact ⟨by first | rfl | (simp; done) | (simp [*]; done), by repeat (first | exact Drawn0.refl _ | apply Drawn0.step)⟩



/-! ### impl_isError: function 97 -/

/-- The error texts. -/
def errL : List ByteArray := [⟨#[35, 78, 85, 76, 76, 33]⟩, ⟨#[35, 68, 73, 86, 47, 48, 33]⟩, ⟨#[35, 86, 65, 76, 85, 69, 33]⟩, ⟨#[35, 82, 69, 70, 33]⟩, ⟨#[35, 78, 65, 77, 69, 63]⟩, ⟨#[35, 78, 85, 77, 33]⟩, ⟨#[35, 78, 47, 65]⟩, ⟨#[35, 83, 80, 73, 76, 76, 33]⟩, ⟨#[35, 67, 89, 67, 76, 69, 33]⟩]

def errT (i : Nat) : ByteArray := rdOf ByteArray.empty errL i

def TabE (w : World) : Prop := ∀ i : Nat, i < 9 → w.cell? ⟨0, i, none⟩ = some (.string (errT i))

theorem TabE.below {w w' : World} (h : TabE w) (hb : Below w.heap.size w w') : TabE w' := fun m h1 => z12q hb (h m h1)

def TabP (w : World) : Prop := Lib.TabIs Tryz.prog w "internal/strconv.uint64pow10" .u64 Lib.pow10Tab

theorem TabP.below {w w' : World} (h : TabP w) (hb : Below w.heap.size w w') : TabP w' := by
 unfold TabP Lib.TabIs World.var? at *
 cases hg : Tryz.prog.globalNamed "internal/strconv.uint64pow10" with
 | none => simp [hg] at h
 | some g =>
  simp only [hg, Option.bind_some] at h ⊢
  have hlt : g < w.heap.size := by
   rcases Nat.lt_or_ge g w.heap.size with h' | h'
   ·exact h'
   ·rw [Array.getElem?_eq_none h'] at h; simp at h
  rw [hb.block g hlt]
  exact h

def SentIs (w : World) (name : String) : Prop := ∃ tp p, w.var? Tryz.prog name = some #[.iface tp p]

theorem SentIs.below {w w' : World} {name : String} (h : SentIs w name) (hb : Below w.heap.size w w') : SentIs w' name := by
 obtain ⟨tp, p, h⟩ := h
 refine ⟨tp, p, ?_⟩
 unfold World.var? at *
 cases hg : Tryz.prog.globalNamed name with
 | none => simp [hg] at h
 | some g =>
  simp only [hg, Option.bind_some] at h ⊢
  have hlt : g < w.heap.size := by
   rcases Nat.lt_or_ge g w.heap.size with h' | h'
   ·exact h'
   ·rw [Array.getElem?_eq_none h'] at h; simp at h
  rw [hb.block g hlt]
  exact h

def TabS (w : World) : Prop := SentIs w "strconv.ErrSyntax" ∧ SentIs w "strconv.ErrRange"

theorem TabS.below {w w' : World} (h : TabS w) (hb : Below w.heap.size w w') : TabS w' := ⟨h.1.below hb, h.2.below hb⟩

def Tab (w : World) : Prop := TabE w ∧ TabP w ∧ TabS w

theorem Tab.below {w w' : World} (h : Tab w) (hb : Below w.heap.size w w') : Tab w' := ⟨TabE.below h.1 hb, TabP.below h.2.1 hb, TabS.below h.2.2 hb⟩

theorem Tab.toE {w : World} (h : Tab w) : TabE w := h.1

theorem Tab.toP {w : World} (h : Tab w) : TabP w := h.2.1

theorem Tab.toS {w : World} (h : Tab w) : TabS w := h.2.2

/-- From the i-th error text on, is one the text? -/
def errFrom (s : ByteArray) (i : Nat) : Bool := (errL.drop i).any fun e => e.toList == s.toList

theorem errFrom_step (s : ByteArray) (i : Nat) (h : i < 9) : errFrom s i = ((errT i).toList == s.toList || errFrom s (i + 1)) := by
 unfold errFrom
 rw [List.drop_eq_getElem_cons (show i < errL.length from h), List.any_cons]
 have : errT i = errL[i]'h := by
  unfold errT rdOf; rw [Int.toNat_natCast]
  rw [List.getD_eq_getElem?_getD, List.getElem?_eq_getElem (show i < errL.length from h)]; rfl
 rw [this]; rfl

def errCells : Array Value := #[.string (errT 0), .string (errT 1), .string (errT 2), .string (errT 3), .string (errT 4), .string (errT 5), .string (errT 6), .string (errT 7), .string (errT 8)]

theorem errIndex (j : Nat) (h : j < 9) (w : World) : (Instr.index 144 (.agg #[.string (errT 0), .string (errT 1), .string (errT 2), .string (errT 3), .string (errT 4), .string (errT 5), .string (errT 6), .string (errT 7), .string (errT 8)]) (.int .i64 (j : Int))).run Tryz.prog w = .ok (.string (errT j)) w := by
 rcases (by omega : j = 0 ∨ j = 1 ∨ j = 2 ∨ j = 3 ∨ j = 4 ∨ j = 5 ∨ j = 6 ∨ j = 7 ∨ j = 8) with rfl | rfl | rfl | rfl | rfl | rfl | rfl | rfl | rfl <;>
  simp [Instr.index, run_underlying Tryz.underlying144, asIntOf, go_sem]

set_option maxHeartbeats 4000000 in
theorem isError_calls (s : ByteArray) (w : World) (hT : Tab w) :
  Calls Tryz.prog 97 #[.string s] w fun e w' => e = .returned (.bool (errFrom s 0)) ∧ Drawn0 w w' := by
 have c0 := hT.toE 0 (by omega)
 have c1 := hT.toE 1 (by omega)
 have c2 := hT.toE 2 (by omega)
 have c3 := hT.toE 3 (by omega)
 have c4 := hT.toE 4 (by omega)
 have c5 := hT.toE 5 (by omega)
 have c6 := hT.toE 6 (by omega)
 have c7 := hT.toE 7 (by omega)
 have c8 := hT.toE 8 (by omega)
 clear hT
 go_enter Tryz.func97, Tryz.ntmps97
 go_wp2_with fail
 go_loopw [6] (fun i w' => ∃ j : Nat, j ≤ 9 ∧ i = .int .i64 j ∧ errFrom s j = errFrom s 0 ∧ w' = w) (fun i _ => 9 - (intOf i).toNat)
 case atStart => exact ⟨0, by omega, rfl, rfl, rfl⟩
 case round =>
  obtain ⟨j, hj, rfl, he, rfl⟩ := hrel
  have HE := Lib.hid he; clear he
  by_cases hlt : j < 9
  ·have ix := errIndex j hlt
   by_cases hs : (errT j).toList = s.toList
   ·have e1 : errFrom s j = true := by rw [errFrom_step s j hlt, hs]; simp
    have E1 := Lib.hid e1; clear e1
    go_wp2_with fail
    go_ret
    rw [← HE.out, E1.out]; exact ⟨rfl, Drawn0.refl _⟩
   ·have e1 : errFrom s j = errFrom s (j + 1) := by
     rw [errFrom_step s j hlt, show ((errT j).toList == s.toList) = false from by simpa using hs]; rfl
    have E1 := Lib.hid e1; clear e1
    have hb : ((errT j).toList == s.toList) = false := by simpa using hs
    go_wp2_with fail
    go_roundw
    case rel => exact ⟨j + 1, by omega, by go_num, by rw [← E1.out]; exact HE.out, by first | rfl | trivial⟩
    case measure => simp [intOf]; omega
  ·go_wp2_with fail
   go_ret
   obtain rfl : j = 9 := by omega
   rw [← HE.out]; exact ⟨rfl, Drawn0.refl _⟩

def impl_isError.f (a0 : ByteArray) : Option Bool := some (errFrom a0 0)

theorem impl_isError.calls (a0 : ByteArray) (r : Bool) (w : World) (hT : Tab w) (h : impl_isError.f a0 = some r) :
  Calls Tryz.prog 97 #[.string a0] w fun e w' => e = .returned (.bool r) ∧ Drawn0 w w' := by
 obtain rfl := Option.some.inj h
 exact isError_calls a0 w hT



/-! ### impl_isLetter: function 104 -/

def impl_isLetter.f (a0 : Int) : Option (Bool) := if a0 ≥ 97 then (if a0 ≤ 122 then (some true) else (if a0 ≥ 65 then (some (decide (a0 ≤ 90))) else (some false))) else (if a0 ≥ 65 then (some (decide (a0 ≤ 90))) else (some false))

set_option maxHeartbeats 8000000 in
set_option maxRecDepth 100000 in
theorem impl_isLetter.calls (a0 : Int) (r : Bool) (w : World) (h : impl_isLetter.f a0 = some r) :
  Calls Tryz.prog 104 #[.int .u8 a0] w fun e w' => e = .returned (.bool r) ∧ Drawn0 w w' := by
 have H : (if a0 ≥ 97 then (if a0 ≤ 122 then (some true) else (if a0 ≥ 65 then (some (decide (a0 ≤ 90))) else (some false))) else (if a0 ≥ 65 then (some (decide (a0 ≤ 90))) else (some false))) = some r := h
 clear h
 by_cases c2 : a0 ≥ 97
 ·rw [if_pos c2] at H
  have c2b0 : decide (97 ≤ a0) = true := decide_eq_true c2
  clear c2
  by_cases c3 : a0 ≤ 122
  ·rw [if_pos c3] at H
   have c3b0 : decide (a0 ≤ 122) = true := decide_eq_true c3
   clear c3
   obtain rfl := Option.some.inj H
   go_enter Tryz.func104, Tryz.ntmps104
   go_wp2
   go_ret
   exact ⟨by first | rfl | (simp; done) | (simp [*]; done), by repeat (first | exact Drawn0.refl _ | apply Drawn0.step)⟩
  ·rw [if_neg c3] at H
   have c3b0 : decide (a0 ≤ 122) = false := decide_eq_false c3
   clear c3
   by_cases c4 : a0 ≥ 65
   ·rw [if_pos c4] at H
    have c4b0 : decide (65 ≤ a0) = true := decide_eq_true c4
    clear c4
    obtain rfl := Option.some.inj H
    go_enter Tryz.func104, Tryz.ntmps104
    go_wp2
    go_ret
    exact ⟨by first | rfl | (simp; done) | (simp [*]; done), by repeat (first | exact Drawn0.refl _ | apply Drawn0.step)⟩
   ·rw [if_neg c4] at H
    have c4b0 : decide (65 ≤ a0) = false := decide_eq_false c4
    clear c4
    obtain rfl := Option.some.inj H
    go_enter Tryz.func104, Tryz.ntmps104
    go_wp2
    go_ret
    exact ⟨by first | rfl | (simp; done) | (simp [*]; done), by repeat (first | exact Drawn0.refl _ | apply Drawn0.step)⟩
 ·rw [if_neg c2] at H
  have c2b0 : decide (97 ≤ a0) = false := decide_eq_false c2
  clear c2
  by_cases c5 : a0 ≥ 65
  ·rw [if_pos c5] at H
   have c5b0 : decide (65 ≤ a0) = true := decide_eq_true c5
   clear c5
   obtain rfl := Option.some.inj H
   go_enter Tryz.func104, Tryz.ntmps104
   go_wp2
   go_ret
   exact ⟨by first | rfl | (simp; done) | (simp [*]; done), by repeat (first | exact Drawn0.refl _ | apply Drawn0.step)⟩
  ·rw [if_neg c5] at H
   have c5b0 : decide (65 ≤ a0) = false := decide_eq_false c5
   clear c5
   obtain rfl := Option.some.inj H
   go_enter Tryz.func104, Tryz.ntmps104
   go_wp2
   go_ret
   exact ⟨by first | rfl | (simp; done) | (simp [*]; done), by repeat (first | exact Drawn0.refl _ | apply Drawn0.step)⟩



/-! ### impl_isDigit: function 105 -/

def impl_isDigit.f (a0 : Int) : Option (Bool) := if a0 ≥ 48 then (some (decide (a0 ≤ 57))) else (some false)

set_option maxHeartbeats 8000000 in
set_option maxRecDepth 100000 in
theorem impl_isDigit.calls (a0 : Int) (r : Bool) (w : World) (h : impl_isDigit.f a0 = some r) :
  Calls Tryz.prog 105 #[.int .u8 a0] w fun e w' => e = .returned (.bool r) ∧ Drawn0 w w' := by
 have H : (if a0 ≥ 48 then (some (decide (a0 ≤ 57))) else (some false)) = some r := h
 clear h
 by_cases c2 : a0 ≥ 48
 ·rw [if_pos c2] at H
  have c2b0 : decide (48 ≤ a0) = true := decide_eq_true c2
  clear c2
  obtain rfl := Option.some.inj H
  go_enter Tryz.func105, Tryz.ntmps105
  go_wp2
  go_ret
  exact ⟨by first | rfl | (simp; done) | (simp [*]; done), by repeat (first | exact Drawn0.refl _ | apply Drawn0.step)⟩
 ·rw [if_neg c2] at H
  have c2b0 : decide (48 ≤ a0) = false := decide_eq_false c2
  clear c2
  obtain rfl := Option.some.inj H
  go_enter Tryz.func105, Tryz.ntmps105
  go_wp2
  go_ret
  exact ⟨by first | rfl | (simp; done) | (simp [*]; done), by repeat (first | exact Drawn0.refl _ | apply Drawn0.step)⟩



/-! ### impl_digitsFrom: function 120 -/

def impl_digitsFrom.l0 : Nat → ByteArray → Int → Option (Int)
 | 0, _, _ => none
 | k + 1, x0, x1 => if x1 < (x0.size : Int) then (if 0 ≤ x1 then (if (bt x0 x1) ≥ 48 then (if (bt x0 x1) ≤ 57 then (impl_digitsFrom.l0 k x0 (wrap64 (x1 + 1))) else (some x1)) else (some x1)) else (none)) else (some x1)

def impl_digitsFrom.f (k : Nat) (a0 : ByteArray) (a1 : Int) : Option (Int) := impl_digitsFrom.l0 k a0 a1

set_option maxHeartbeats 8000000 in
set_option maxRecDepth 100000 in
theorem impl_digitsFrom.calls (k : Nat) (a0 : ByteArray) (a1 : Int) (r : Int) (w : World) (h : impl_digitsFrom.f k a0 a1 = some r) :
  Calls Tryz.prog 120 #[.string a0, .int .i64 a1] w fun e w' => e = .returned (.int .i64 r) ∧ Drawn0 w w' := by
 have H : (impl_digitsFrom.l0 k a0 a1) = some r := h
 clear h
 have H' := Aside0.mk H
 clear H
 go_enter Tryz.func120, Tryz.ntmps120
 go_wp2
 go_loopg [1] k (fun kq v1 w' => ∃ (x1_1 : Int), v1 = .int .i64 x1_1 ∧ Aside0 (impl_digitsFrom.l0 kq a0 x1_1 = some r) ∧ Aside0 (kq ≤ k) ∧ Drawn0 w w')
 case atStart => exact ⟨(a1), (by first | rfl | (simp; done) | (simp [*]; done) | (simp; unfold wrap64; omega)), H', ⟨Nat.le_refl _⟩, by repeat (first | exact Drawn0.refl _ | apply Drawn0.step)⟩
 case round =>
  clear H'
  try clear c1
  try clear p2
  obtain ⟨x1_1, rfl, HA, HK1, ⟨m1, rfl⟩⟩ := hrel
  cases gk with
  | zero => exact absurd HA.out (by simp [impl_digitsFrom.l0])
  | succ k1 =>
   have H := HA.out
   clear HA
   simp only [impl_digitsFrom.l0] at H
   by_cases c3 : x1_1 < (a0.size : Int)
   ·rw [if_pos c3] at H
    have c3b0 : decide (x1_1 < (a0.size : Int)) = true := decide_eq_true c3
    clear c3
    by_cases c4 : 0 ≤ x1_1
    ·rw [if_pos c4] at H
     have c4b0 : decide (0 ≤ x1_1) = true := decide_eq_true c4
     clear c4
     by_cases c6 : (bt a0 x1_1) ≥ 48
     ·rw [if_pos c6] at H
      have c6b0 : decide (48 ≤ (bt a0 x1_1)) = true := decide_eq_true c6
      clear c6
      by_cases c8 : (bt a0 x1_1) ≤ 57
      ·rw [if_pos c8] at H
       have c8b0 : decide ((bt a0 x1_1) ≤ 57) = true := decide_eq_true c8
       clear c8
       have H' := Aside0.mk H
       clear H
       have p5 : 0 ≤ (x1_1 : Int) := of_decide_eq_true (by first | (with_reducible assumption) | assumption)
       have q5 : x1_1 < (a0.size : Int) := of_decide_eq_true (by first | (with_reducible assumption) | assumption)
       have hx5 := bt_at a0 x1_1
       replace p5 := eq_true p5
       replace q5 := eq_true q5
       have p7 : 0 ≤ (x1_1 : Int) := of_decide_eq_true (by first | (with_reducible assumption) | assumption)
       have q7 : x1_1 < (a0.size : Int) := of_decide_eq_true (by first | (with_reducible assumption) | assumption)
       have hx7 := bt_at a0 x1_1
       replace p7 := eq_true p7
       replace q7 := eq_true q7
       go_wp2
       go_roundg k1
       case measure => have := HK1.out; omega
       case rel => exact ⟨(wrap64 (x1_1 + 1)), (by first | rfl | (simp; done) | (simp [*]; done) | (simp; unfold wrap64; omega)), H', ⟨by have := HK1.out; omega⟩, by repeat (first | exact Drawn0.refl _ | apply Drawn0.step)⟩
      ·rw [if_neg c8] at H
       have c8b0 : decide ((bt a0 x1_1) ≤ 57) = false := decide_eq_false c8
       clear c8
       obtain rfl := Option.some.inj H
       have p5 : 0 ≤ (x1_1 : Int) := of_decide_eq_true (by first | (with_reducible assumption) | assumption)
       have q5 : x1_1 < (a0.size : Int) := of_decide_eq_true (by first | (with_reducible assumption) | assumption)
       have hx5 := bt_at a0 x1_1
       replace p5 := eq_true p5
       replace q5 := eq_true q5
       have p7 : 0 ≤ (x1_1 : Int) := of_decide_eq_true (by first | (with_reducible assumption) | assumption)
       have q7 : x1_1 < (a0.size : Int) := of_decide_eq_true (by first | (with_reducible assumption) | assumption)
       have hx7 := bt_at a0 x1_1
       replace p7 := eq_true p7
       replace q7 := eq_true q7
       go_wp2
       go_ret
       exact ⟨by first | rfl | (simp; done) | (simp [*]; done), by repeat (first | exact Drawn0.refl _ | apply Drawn0.step)⟩
     ·rw [if_neg c6] at H
      have c6b0 : decide (48 ≤ (bt a0 x1_1)) = false := decide_eq_false c6
      clear c6
      obtain rfl := Option.some.inj H
      have p5 : 0 ≤ (x1_1 : Int) := of_decide_eq_true (by first | (with_reducible assumption) | assumption)
      have q5 : x1_1 < (a0.size : Int) := of_decide_eq_true (by first | (with_reducible assumption) | assumption)
      have hx5 := bt_at a0 x1_1
      replace p5 := eq_true p5
      replace q5 := eq_true q5
      go_wp2
      go_ret
      exact ⟨by first | rfl | (simp; done) | (simp [*]; done), by repeat (first | exact Drawn0.refl _ | apply Drawn0.step)⟩
    ·rw [if_neg c4] at H
     exact absurd H (by simp)
   ·rw [if_neg c3] at H
    have c3b0 : decide (x1_1 < (a0.size : Int)) = false := decide_eq_false c3
    clear c3
    obtain rfl := Option.some.inj H
    go_wp2
    go_ret
    exact ⟨by first | rfl | (simp; done) | (simp [*]; done), by repeat (first | exact Drawn0.refl _ | apply Drawn0.step)⟩



/-! ### impl_likeBy: function 106 -/

def impl_likeBy.j0 : Nat → ByteArray → Int → Bool → Bool → Option (Bool)
 | 0, _, _, _, _ => none
 | k + 1, x0, x3, x4, x14 => if x14 = true then ((impl_digitsFrom.f k x0 1).bind fun t380 => (if t380 < (x0.size : Int) then (if 0 ≤ t380 then (if (bt x0 t380) = 67 then ((impl_digitsFrom.f k x0 (wrap64 (t380 + 1))).bind fun t381 => (some (t381 == (x0.size : Int)))) else (some (t380 == (x0.size : Int)))) else (none)) else (some (t380 == (x0.size : Int))))) else (if x3 < (x0.size : Int) then (if 0 ≤ x3 then (if (bt x0 x3) = 67 then ((impl_digitsFrom.f k x0 (wrap64 (x3 + 1))).bind fun t382 => (some (t382 == (x0.size : Int)))) else (if x4 = true then (some (x3 == (x0.size : Int))) else (some false))) else (none)) else (if x4 = true then (some (x3 == (x0.size : Int))) else (some false)))

def impl_likeBy.f (k : Nat) (a0 : ByteArray) : Option (Bool) := if 0 < (a0.size : Int) then (impl_likeBy.j0 k a0 0 false ((bt a0 0) == 82)) else (impl_likeBy.j0 k a0 0 false false)

set_option maxHeartbeats 8000000 in
set_option maxRecDepth 100000 in
theorem impl_likeBy.calls (k : Nat) (a0 : ByteArray) (r : Bool) (w : World) (h : impl_likeBy.f k a0 = some r) :
  Calls Tryz.prog 106 #[.string a0] w fun e w' => e = .returned (.bool r) ∧ Drawn0 w w' := by
 rw [impl_likeBy.f] at h
 by_cases h0 : 0 < (a0.size : Int)
 ·have b0 : decide (0 < (a0.size : Int)) = true := decide_eq_true h0
  have b1 : decide (0 < a0.size) = true := decide_eq_true (by omega)
  have q0 : (0 < (a0.size : Int)) = True := eq_true h0
  have q1 : (0 < a0.size) = True := eq_true (by omega)
  have hx : ∀ h : 0 < a0.size, ((a0[0]'h).toNat : Int) = bt a0 0 := bt_at a0 0
  rw [if_pos h0] at h
  cases k with
  | zero => exact absurd h (by simp [impl_likeBy.j0])
  | succ k =>
  by_cases e0 : bt a0 0 = 82
  ·have e1 : (bt a0 0 == 82) = true := beq_iff_eq.mpr e0
   rw [e1, impl_likeBy.j0, if_pos rfl] at h
   obtain ⟨i, hi, H⟩ := Option.bind_eq_some_iff.mp h
   have HI := Lib.hid hi; clear h hi e0 h0
   by_cases c1 : i < (a0.size : Int)
   ·rw [if_pos c1] at H
    by_cases c2 : 0 ≤ i
    ·rw [if_pos c2] at H
     have g1 : decide (i < (a0.size : Int)) = true := decide_eq_true c1
     have g2 : (0 ≤ i) = True := eq_true c2
     have g3 : (i < (a0.size : Int)) = True := eq_true c1
     have g4 : (i.toNat < a0.size) = True := eq_true (by omega)
     have hy : ∀ h : i.toNat < a0.size, ((a0[i.toNat]'h).toNat : Int) = bt a0 i := bt_at a0 i
     by_cases c3 : bt a0 i = 67
     ·rw [if_pos c3] at H
      have g5 : (bt a0 i == 67) = true := beq_iff_eq.mpr c3
      obtain ⟨j, hj, H⟩ := Option.bind_eq_some_iff.mp H
      obtain rfl := Option.some.inj H
      have HJ := Lib.hid hj; clear hj c1 c2 c3 H
      go_enter Tryz.func106, Tryz.ntmps106
      go_wp2_with fail
      refine (impl_digitsFrom.calls _ _ _ _ _ HI.out).mono ?_; rintro e w' ⟨rfl, ⟨nd, rfl⟩⟩
      go_wp2_with fail
      (try simp only [i64_w])
      refine (impl_digitsFrom.calls _ _ _ _ _ HJ.out).mono ?_; rintro e w' ⟨rfl, ⟨nd, rfl⟩⟩
      go_wp2_with fail
      go_ret
      exact ⟨by first | rfl | (simp; done), by first | exact Drawn0.refl _ | exact ⟨_, rfl⟩⟩
     ·rw [if_neg c3] at H
      have g5 : (bt a0 i == 67) = false := beq_eq_false_iff_ne.mpr c3
      obtain rfl := Option.some.inj H
      clear c1 c2 c3 H
      go_enter Tryz.func106, Tryz.ntmps106
      go_wp2_with fail
      refine (impl_digitsFrom.calls _ _ _ _ _ HI.out).mono ?_; rintro e w' ⟨rfl, ⟨nd, rfl⟩⟩
      go_wp2_with fail
      go_ret
      exact ⟨by first | rfl | (simp; done), by first | exact Drawn0.refl _ | exact ⟨_, rfl⟩⟩
    ·rw [if_neg c2] at H; cases H
   ·rw [if_neg c1] at H
    have g1 : decide (i < (a0.size : Int)) = false := decide_eq_false c1
    obtain rfl := Option.some.inj H
    clear c1 H
    go_enter Tryz.func106, Tryz.ntmps106
    go_wp2_with fail
    refine (impl_digitsFrom.calls _ _ _ _ _ HI.out).mono ?_; rintro e w' ⟨rfl, ⟨nd, rfl⟩⟩
    go_wp2_with fail
    go_ret
    exact ⟨by first | rfl | (simp; done), by first | exact Drawn0.refl _ | exact ⟨_, rfl⟩⟩
  ·have e1 : (bt a0 0 == 82) = false := beq_eq_false_iff_ne.mpr e0
   rw [e1, impl_likeBy.j0, if_neg (by decide), if_pos h0, if_pos (by decide)] at h
   clear e0 h0
   by_cases c3 : bt a0 0 = 67
   ·rw [if_pos c3] at h
    have g5 : (bt a0 0 == 67) = true := beq_iff_eq.mpr c3
    obtain ⟨j, hj, H⟩ := Option.bind_eq_some_iff.mp h
    obtain rfl := Option.some.inj H
    rw [show wrap64 (0 + 1) = 1 from by unfold wrap64; omega] at hj
    have HJ := Lib.hid hj; clear hj h c3 H
    go_enter Tryz.func106, Tryz.ntmps106
    go_wp2_with fail
    refine (impl_digitsFrom.calls _ _ _ _ _ HJ.out).mono ?_; rintro e w' ⟨rfl, ⟨nd, rfl⟩⟩
    go_wp2_with fail
    go_ret
    exact ⟨by first | rfl | (simp; done), by first | exact Drawn0.refl _ | exact ⟨_, rfl⟩⟩
   ·rw [if_neg c3, if_neg (by decide)] at h
    have g5 : (bt a0 0 == 67) = false := beq_eq_false_iff_ne.mpr c3
    obtain rfl := Option.some.inj h
    clear c3 h
    go_enter Tryz.func106, Tryz.ntmps106
    go_wp2_with fail
    go_wp2_with fail
    go_ret
    exact ⟨by first | rfl | (simp; done), by first | exact Drawn0.refl _ | exact ⟨_, rfl⟩⟩
 ·have b0 : decide (0 < (a0.size : Int)) = false := decide_eq_false h0
  have b1 : decide (0 < a0.size) = false := decide_eq_false (by omega)
  rw [if_neg h0] at h
  cases k with
  | zero => exact absurd h (by simp [impl_likeBy.j0])
  | succ k =>
  rw [impl_likeBy.j0, if_neg (by decide), if_neg h0, if_neg (by decide)] at h
  obtain rfl := Option.some.inj h
  have hz : a0.size = 0 := by omega
  clear h h0
  go_enter Tryz.func106, Tryz.ntmps106
  go_wp2_with fail
  go_wp2_with fail
  go_ret
  exact ⟨by first | rfl | (simp; done), by first | exact Drawn0.refl _ | exact ⟨_, rfl⟩⟩

/-! ### -/



/-! ### strconv_Itoa: function 101 -/

def shl_laysM171_ren : Go.Shelf.Ren := ⟨fun | 171 => 101 | 243 => 110 | 246 => 129 | 283 => 144 | 284 => 145 | 285 => 146 | 286 => 147 | 129 => 161 | 317 => 160 | 318 => 162 | 319 => 163 | 320 => 164 | 337 => 167 | 338 => 168 | n => n, fun | 3 => 3 | 9 => 9 | 2 => 2 | 4 => 4 | 171 => 173 | 0 => 0 | 53 => 166 | 37 => 116 | 5 => 5 | 173 => 176 | 212 => 191 | 51 => 179 | 20 => 20 | 213 => 192 | 46 => 169 | 232 => 197 | 233 => 198 | n => n, fun | 17 => 3 | 18 => 4 | 19 => 5 | n => n⟩

theorem shl_laysM171 : Go.Proofs.LaysM.n171 Tryz.prog shl_laysM171_ren := {
 mixed := by kernel_rfl
 f129 := Tryz.func161.trans (congrArg some (by kernel_rfl))
 f171 := Tryz.func101.trans (congrArg some (by kernel_rfl))
 f243 := Tryz.func110.trans (congrArg some (by kernel_rfl))
 f246 := Tryz.func129.trans (congrArg some (by kernel_rfl))
 f283 := Tryz.func144.trans (congrArg some (by kernel_rfl))
 f284 := Tryz.func145.trans (congrArg some (by kernel_rfl))
 f285 := Tryz.func146.trans (congrArg some (by kernel_rfl))
 f286 := Tryz.func147.trans (congrArg some (by kernel_rfl))
 f317 := Tryz.func160.trans (congrArg some (by kernel_rfl))
 f318 := Tryz.func162.trans (congrArg some (by kernel_rfl))
 f319 := Tryz.func163.trans (congrArg some (by kernel_rfl))
 f320 := Tryz.func164.trans (congrArg some (by kernel_rfl))
 f337 := Tryz.func167.trans (congrArg some (by kernel_rfl))
 f338 := Tryz.func168.trans (congrArg some (by kernel_rfl))
 t0 := Tryz.underlying0
 a0 := Tryz.isAgg0
 z0 := Tryz.sizeOf0
 v0 := Tryz.zeroValue0
 t2 := Tryz.underlying2
 a2 := Tryz.isAgg2
 z2 := Tryz.sizeOf2
 v2 := Tryz.zeroValue2
 t3 := Tryz.underlying3
 a3 := Tryz.isAgg3
 z3 := Tryz.sizeOf3
 v3 := Tryz.zeroValue3
 t4 := Tryz.underlying4
 a4 := Tryz.isAgg4
 z4 := Tryz.sizeOf4
 v4 := Tryz.zeroValue4
 t5 := Tryz.underlying5
 a5 := Tryz.isAgg5
 z5 := Tryz.sizeOf5
 v5 := Tryz.zeroValue5
 t9 := Tryz.underlying9
 a9 := Tryz.isAgg9
 z9 := Tryz.sizeOf9
 v9 := Tryz.zeroValue9
 t20 := Tryz.underlying20
 a20 := Tryz.isAgg20
 z20 := Tryz.sizeOf20
 v20 := Tryz.zeroValue20
 t37 := Tryz.underlying116
 a37 := Tryz.isAgg116
 z37 := Tryz.sizeOf116
 v37 := Tryz.zeroValue116
 t46 := Tryz.underlying169
 a46 := Tryz.isAgg169
 z46 := Tryz.sizeOf169
 v46 := Tryz.zeroValue169
 t51 := Tryz.underlying179
 a51 := Tryz.isAgg179
 z51 := Tryz.sizeOf179
 v51 := Tryz.zeroValue179
 t53 := Tryz.underlying166
 a53 := Tryz.isAgg166
 z53 := Tryz.sizeOf166
 v53 := Tryz.zeroValue166
 t171 := Tryz.underlying173
 a171 := Tryz.isAgg173
 z171 := Tryz.sizeOf173
 v171 := Tryz.zeroValue173
 t173 := Tryz.underlying176
 a173 := Tryz.isAgg176
 z173 := Tryz.sizeOf176
 v173 := Tryz.zeroValue176
 t212 := Tryz.underlying191
 a212 := Tryz.isAgg191
 z212 := Tryz.sizeOf191
 v212 := Tryz.zeroValue191
 t213 := Tryz.underlying192
 a213 := Tryz.isAgg192
 z213 := Tryz.sizeOf192
 t232 := Tryz.underlying197
 a232 := Tryz.isAgg197
 z232 := Tryz.sizeOf197
 v232 := Tryz.zeroValue197
 t233 := Tryz.underlying198
 a233 := Tryz.isAgg198
 z233 := Tryz.sizeOf198
 v233 := Tryz.zeroValue198
 g17 := by kernel_rfl
 g18 := by kernel_rfl
 g19 := by kernel_rfl
 i0 := by kernel_rfl
 i2 := by kernel_rfl
 i3 := by kernel_rfl
 i4 := by kernel_rfl
 i5 := by kernel_rfl
 i9 := by kernel_rfl
 i20 := by kernel_rfl
 i37 := by kernel_rfl
 i46 := by kernel_rfl
 i51 := by kernel_rfl
 i53 := by kernel_rfl
 i171 := by kernel_rfl
 i173 := by kernel_rfl
 i212 := by kernel_rfl
 i232 := by kernel_rfl
 i233 := by kernel_rfl
 m17 := by kernel_rfl
 m18 := by kernel_rfl
 m19 := by kernel_rfl }

open Go.RowKit Go.Sort Go.Lib in

theorem shl_strconv_Itoa (n : Int) (h0 : -9223372036854775808 ≤ n) (h1 : n ≤ 9223372036854775807) (w : World) (htab : Lib.TabIs Tryz.prog w "internal/strconv.uint64pow10" .u64 Lib.pow10Tab) :
  Calls Tryz.prog 101 #[.int .i64 n] w fun e w' => e = .returned (.string ⟨(Lib.itoa n).toArray⟩) ∧ ∃ k os, w' = grow (w.drewN k) os := Any.strconv_Itoa shl_laysM171 n h0 h1 w htab


theorem itoa_below (w : World) (k : Nat) (os : Array Obj) : Below w.heap.size w (Go.Sort.grow (w.drewN k) os) :=
 ⟨rfl, rfl, rfl, by simp [Go.Sort.grow], fun i hi => by show (w.heap ++ os)[i]? = _; rw [Array.getElem?_append_left hi]⟩

def strconv_Itoa.f (a0 : Int) : Option ByteArray := if -9223372036854775808 ≤ a0 ∧ a0 ≤ 9223372036854775807 then some ⟨(Lib.itoa a0).toArray⟩ else none

theorem strconv_Itoa.calls (a0 : Int) (r : ByteArray) (w : World) (hT : Tab w) (h : strconv_Itoa.f a0 = some r) :
  Calls Tryz.prog 101 #[.int .i64 a0] w fun e w' => e = .returned (.string r) ∧ Below w.heap.size w w' := by
 unfold strconv_Itoa.f at h
 by_cases hs : -9223372036854775808 ≤ a0 ∧ a0 ≤ 9223372036854775807
 ·rw [if_pos hs] at h
  obtain rfl := Option.some.inj h
  exact (shl_strconv_Itoa a0 hs.1 hs.2 w hT.toP).mono fun e w' ⟨he, k, os, hw⟩ => ⟨he, hw ▸ itoa_below w k os⟩
 ·rw [if_neg hs] at h; cases h



/-! ### strconv_Atoi: function 100 -/

def shl_laysC172_ren : Go.Shelf.Ren := ⟨fun | 172 => 100 | 244 => 108 | 245 => 109 | 247 => 124 | 279 => 125 | 280 => 126 | 281 => 127 | 282 => 128 | 287 => 141 | 316 => 142 | 171 => 101 | 205 => 143 | 321 => 158 | 322 => 159 | 243 => 110 | 246 => 129 | 283 => 144 | 284 => 145 | 285 => 146 | 286 => 147 | 129 => 161 | 317 => 160 | 318 => 162 | 319 => 163 | 320 => 164 | 337 => 167 | 338 => 168 | n => n, fun | 9 => 9 | 3 => 3 | 75 => 139 | 76 => 140 | 4 => 4 | 5 => 5 | 167 => 153 | 37 => 116 | 0 => 0 | 85 => 154 | 2 => 2 | 168 => 156 | 53 => 166 | 175 => 167 | 46 => 169 | 210 => 171 | 127 => 186 | 145 => 189 | 143 => 187 | 21 => 21 | 171 => 173 | 173 => 176 | 212 => 191 | 51 => 179 | 20 => 20 | 213 => 192 | 232 => 197 | 233 => 198 | 80 => 201 | n => n, fun | 15 => 1 | 16 => 2 | 17 => 3 | 18 => 4 | 19 => 5 | n => n⟩

end Go.Proofs.YtegdpgpbdcediaaGreatDoor.PFnExactGoodFormula
