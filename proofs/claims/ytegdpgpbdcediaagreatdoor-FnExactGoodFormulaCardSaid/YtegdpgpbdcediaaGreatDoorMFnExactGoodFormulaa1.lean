/- Functions of the program as Lean functions, and proofs that the Go code comes to their answers: for the law FnExactGoodFormula; made out of the print by a program of mine (compact.py). No conditions but each theorem's own. -/
import Derived.Test.YtegdpgpbdcediaaGreatDoorMFnExactGoodFormulaa0
namespace Go.Proofs.YtegdpgpbdcediaaGreatDoor.PFnExactGoodFormula
open List (map_toArray map_cons map_nil length_drop length_take set_cons_zero set_cons_succ setIfInBounds_toArray)
open Go.RowKit Go.Proofs.YtegdpgpbdcediaaGreatDoorW.PrintWords Go.Proofs.YtegdpgpbdcediaaGreatDoorW.PrintLast Go.Proofs.YtegdpgpbdcediaaGreatDoorW.PrintMore
attribute [local go_sem] max2_int min2_int max_two min_two max_three min_three max_four min_four   -- for this text's walks alone
set_option linter.unusedVariables false
set_option linter.unusedSimpArgs false

attribute [local go_sem high] eqA47 eqA65
set_option maxHeartbeats 8000000 in
set_option maxRecDepth 100000 in
theorem spec_l4Take.calls (k : Nat) : ∀ (A0 : Option Addr) (c0 : Nat) (l0 : List (S67)) (a1 : Int) (a2 : Int) (r1 : Int) (r2 : ByteArray) (r3 : Bool) (r4 : Int) (r5 : Int) (r6 : Int) (r7 : Int) (r8 : Bool) (r9 : Bool) (r10 : Int) (r11 : Int) (r12 : Bool) (r13 : Bool) (r14 : Int) (r15 : List (S70)) (r16 : Int) (w : World) (hr0 : Kd.C k67 w A0 l0.length l0) (hc0 : l0.length ≤ c0) (h : spec_l4Take.f k l0 a1 a2 = some (r1, r2, r3, r4, r5, r6, r7, r8, r9, r10, r11, r12, r13, r14, r15, r16)),
  Calls Tryz.prog 70 #[.slice A0 l0.length c0, .int .i64 a1, .int .i64 a2] w fun e w' => ∃ v14_ : Value, e = .returned (.tuple #[.agg #[.int .i64 r1, .string r2, .bool r3, .int .i64 r4, .int .i64 r5, .int .i64 r6, .int .i64 r7, .bool r8, .bool r9, .int .i64 r10, .int .i64 r11, .bool r12, .bool r13, .int .i64 r14, v14_], .int .i64 r16]) ∧ Kd.R k70 70 w' w.heap.size (fun _ => True) v14_ r15 ∧ Below w.heap.size w w' := by
 induction k using Nat.strongRecOn with
 | _ k ih =>
 intro A0 c0 l0 a1 a2 r1 r2 r3 r4 r5 r6 r7 r8 r9 r10 r11 r12 r13 r14 r15 r16 w hr0 hc0 h
 cases k with
 | zero => exact absurd h (by simp [spec_l4Take.f])
 | succ k =>
 simp only [spec_l4Take.f] at h
 have hu70 := Tryz.underlying70
 have hu67 := Tryz.underlying67
 have HR0 := Aside0.mk hr0
 have HC0 := Aside0.mk hc0
 clear hr0 hc0
 have HB := Aside0.mk (Below.refl w.heap.size w)
 have H : (if a1 ≥ (l0.length : Int) then (spec_l4Take.j0 k l0 a1 a2 true) else (if a2 > 40 then (spec_l4Take.j0 k l0 a1 a2 true) else (if 0 ≤ a1 then (if a1 < (l0.length : Int) then (if ((rd_T67 l0 a1).f5) < 0 then (spec_l4Take.j0 k l0 a1 a2 true) else (spec_l4Take.j0 k l0 a1 a2 (decide (((rd_T67 l0 a1).f5) > 100)))) else (none)) else (none)))) = some (r1, r2, r3, r4, r5, r6, r7, r8, r9, r10, r11, r12, r13, r14, r15, r16) := h
 clear h
 have HC4 := Aside0.mk H
 clear H
 go_enter Tryz.func70, Tryz.ntmps70
 go_upto_region 1 with (first | ((with_reducible refine z17q (N := 6) rfl ?_); refine z16q ?hg (N := 6) ?hd (cs := #[.int .i64 0, .string (⟨#[]⟩ : ByteArray), .bool false, .int .i64 0, .int .i64 0, .int .i64 0, .int .i64 0, .bool false, .bool false, .int .i64 0, .int .i64 0, .bool false, .bool false, .int .i64 0, .slice none 0 0]) (t := 70) ?hr ?_; (case hd => rfl); (case hg => rfl); (case hr => first | (go_simp; done) | (go_simp; rfl)); intro gb104 hg w5 hbox hb; have n0_ := Aside0.mk (z6q (ibh HB.out) hb); have n1_ := Aside0.mk (hbox); have n2_ := Aside0.mk ((by rw [hg]; exact (z7q (ibh HB.out)) : w.heap.size ≤ gb104)); have n3_ := Aside0.mk ((by rw [hg]; exact (z7q (ibh HB.out)) : w.heap.size ≤ gb104)); clear HB; have HB := n0_; have BK104 := n1_; have GW104 := n2_; have GE104 := n3_; clear n0_ n1_ n2_ n3_; clear hb hbox hg))
 (try simp only [Act.put, setIfInBounds_toArray, set_cons_zero, set_cons_succ])
 go_cut [35] (fun v35 wc => ∃ (kq : Nat) (x35_3 : Bool), v35 = .bool x35_3 ∧ Aside0 (spec_l4Take.j0 kq l0 a1 a2 x35_3 = some (r1, r2, r3, r4, r5, r6, r7, r8, r9, r10, r11, r12, r13, r14, r15, r16)) ∧ Aside0 (kq ≤ k) ∧ Aside0 (wc.heap[gb104]? = some (.cells #[.int .i64 0, .string (⟨#[]⟩ : ByteArray), .bool false, .int .i64 0, .int .i64 0, .int .i64 0, .int .i64 0, .bool false, .bool false, .int .i64 0, .int .i64 0, .bool false, .bool false, .int .i64 0, (.slice none 0 0)] 70 (0, 0))) ∧ Aside0 (Below w.heap.size w wc))
 case first =>
  have H := HC4.out
  clear HC4
  by_cases c6 : a1 ≥ (l0.length : Int)
  ·rw [if_pos c6] at H
   have c6b0 : decide ((l0.length : Int) ≤ a1) = true := decide_eq_true c6
   clear c6
   (first | rw [c6b0] | (simp only [i64_w, i32_w]; rw [c6b0]) | skip)
   have H' := Aside0.mk H
   clear H
   go_wp2
   go_meet
   case rel => exact ⟨_, (true), (by first | rfl | (simp; done) | (simp [*]; done) | (simp; unfold wrap64; omega)), H', ⟨by first | omega | exact Nat.le_refl _⟩, ⟨by (with_reducible repeat (first | refine z11q ?_ _ | refine z13q ?_ | refine z10q ?_ _)); exact BK104.out⟩, ⟨by repeat (first | (with_reducible first | exact HB.out | apply z2q | apply z3q | apply z4q | refine z8q ?_ GE104.out) | exact HB.out)⟩⟩
  ·rw [if_neg c6] at H
   have c6b0 : decide ((l0.length : Int) ≤ a1) = false := decide_eq_false c6
   clear c6
   (first | rw [c6b0] | (simp only [i64_w, i32_w]; rw [c6b0]) | skip)
   by_cases c7 : a2 > 40
   ·rw [if_pos c7] at H
    have c7b0 : decide (40 < a2) = true := decide_eq_true c7
    clear c7
    have H' := Aside0.mk H
    clear H
    go_wp2
    go_meet
    case rel => exact ⟨_, (true), (by first | rfl | (simp; done) | (simp [*]; done) | (simp; unfold wrap64; omega)), H', ⟨by first | omega | exact Nat.le_refl _⟩, ⟨by (with_reducible repeat (first | refine z11q ?_ _ | refine z13q ?_ | refine z10q ?_ _)); exact BK104.out⟩, ⟨by repeat (first | (with_reducible first | exact HB.out | apply z2q | apply z3q | apply z4q | refine z8q ?_ GE104.out) | exact HB.out)⟩⟩
   ·rw [if_neg c7] at H
    have c7b0 : decide (40 < a2) = false := decide_eq_false c7
    clear c7
    by_cases c8 : 0 ≤ a1
    ·rw [if_pos c8] at H
     have c8b0 : decide (0 ≤ a1) = true := decide_eq_true c8
     clear c8
     by_cases c9 : a1 < (l0.length : Int)
     ·rw [if_pos c9] at H
      have c9b0 : decide (a1 < (l0.length : Int)) = true := decide_eq_true c9
      clear c9
      by_cases c10 : ((rd_T67 l0 a1).f5) < 0
      ·rw [if_pos c10] at H
       have c10b0 : decide (((rd_T67 l0 a1).f5) < 0) = true := decide_eq_true c10
       clear c10
       have H' := Aside0.mk H
       clear H
       have p105 : 0 ≤ (a1 : Int) := of_decide_eq_true (by first | (with_reducible assumption) | assumption)
       have q105 : a1 < (l0.length : Int) := of_decide_eq_true (by first | (with_reducible assumption) | assumption)
       obtain ⟨ad105, e105, hx105_0, hx105_1, hx105_2, hx105_3, hx105_4, hx105_5, hx105_6, hx105_7, hx105_8, hx105_9, hx105_10, hx105_11, hx105_12, hx105_13⟩ := at_T67 HR0.out a1 p105 q105
       cases e105
       replace hx105_0 := (hbc HB.out hx105_0).trans hx105_0
       replace hx105_1 := (hbc HB.out hx105_1).trans hx105_1
       replace hx105_2 := (hbc HB.out hx105_2).trans hx105_2
       replace hx105_3 := (hbc HB.out hx105_3).trans hx105_3
       replace hx105_4 := (hbc HB.out hx105_4).trans hx105_4
       replace hx105_5 := (hbc HB.out hx105_5).trans hx105_5
       replace hx105_6 := (hbc HB.out hx105_6).trans hx105_6
       replace hx105_7 := (hbc HB.out hx105_7).trans hx105_7
       replace hx105_8 := (hbc HB.out hx105_8).trans hx105_8
       replace hx105_9 := (hbc HB.out hx105_9).trans hx105_9
       replace hx105_10 := (hbc HB.out hx105_10).trans hx105_10
       replace hx105_11 := (hbc HB.out hx105_11).trans hx105_11
       replace hx105_12 := (hbc HB.out hx105_12).trans hx105_12
       replace hx105_13 := (hbc HB.out hx105_13).trans hx105_13
       replace p105 := eq_true p105
       replace q105 := eq_true q105
       go_wp2
       go_meet
       case rel => exact ⟨_, (true), (by first | rfl | (simp; done) | (simp [*]; done) | (simp; unfold wrap64; omega)), H', ⟨by first | omega | exact Nat.le_refl _⟩, ⟨by (with_reducible repeat (first | refine z11q ?_ _ | refine z13q ?_ | refine z10q ?_ _)); exact BK104.out⟩, ⟨by repeat (first | (with_reducible first | exact HB.out | apply z2q | apply z3q | apply z4q | refine z8q ?_ GE104.out) | exact HB.out)⟩⟩
      ·rw [if_neg c10] at H
       have c10b0 : decide (((rd_T67 l0 a1).f5) < 0) = false := decide_eq_false c10
       clear c10
       have H' := Aside0.mk H
       clear H
       have p105 : 0 ≤ (a1 : Int) := of_decide_eq_true (by first | (with_reducible assumption) | assumption)
       have q105 : a1 < (l0.length : Int) := of_decide_eq_true (by first | (with_reducible assumption) | assumption)
       obtain ⟨ad105, e105, hx105_0, hx105_1, hx105_2, hx105_3, hx105_4, hx105_5, hx105_6, hx105_7, hx105_8, hx105_9, hx105_10, hx105_11, hx105_12, hx105_13⟩ := at_T67 HR0.out a1 p105 q105
       cases e105
       replace hx105_0 := (hbc HB.out hx105_0).trans hx105_0
       replace hx105_1 := (hbc HB.out hx105_1).trans hx105_1
       replace hx105_2 := (hbc HB.out hx105_2).trans hx105_2
       replace hx105_3 := (hbc HB.out hx105_3).trans hx105_3
       replace hx105_4 := (hbc HB.out hx105_4).trans hx105_4
       replace hx105_5 := (hbc HB.out hx105_5).trans hx105_5
       replace hx105_6 := (hbc HB.out hx105_6).trans hx105_6
       replace hx105_7 := (hbc HB.out hx105_7).trans hx105_7
       replace hx105_8 := (hbc HB.out hx105_8).trans hx105_8
       replace hx105_9 := (hbc HB.out hx105_9).trans hx105_9
       replace hx105_10 := (hbc HB.out hx105_10).trans hx105_10
       replace hx105_11 := (hbc HB.out hx105_11).trans hx105_11
       replace hx105_12 := (hbc HB.out hx105_12).trans hx105_12
       replace hx105_13 := (hbc HB.out hx105_13).trans hx105_13
       replace p105 := eq_true p105
       replace q105 := eq_true q105
       have p106 : 0 ≤ (a1 : Int) := of_decide_eq_true (by first | (with_reducible assumption) | assumption)
       have q106 : a1 < (l0.length : Int) := of_decide_eq_true (by first | (with_reducible assumption) | assumption)
       obtain ⟨ad106, e106, hx106_0, hx106_1, hx106_2, hx106_3, hx106_4, hx106_5, hx106_6, hx106_7, hx106_8, hx106_9, hx106_10, hx106_11, hx106_12, hx106_13⟩ := at_T67 HR0.out a1 p106 q106
       obtain rfl : ad105 = ad106 := (by injection e106)
       replace hx106_0 := (hbc HB.out hx106_0).trans hx106_0
       replace hx106_1 := (hbc HB.out hx106_1).trans hx106_1
       replace hx106_2 := (hbc HB.out hx106_2).trans hx106_2
       replace hx106_3 := (hbc HB.out hx106_3).trans hx106_3
       replace hx106_4 := (hbc HB.out hx106_4).trans hx106_4
       replace hx106_5 := (hbc HB.out hx106_5).trans hx106_5
       replace hx106_6 := (hbc HB.out hx106_6).trans hx106_6
       replace hx106_7 := (hbc HB.out hx106_7).trans hx106_7
       replace hx106_8 := (hbc HB.out hx106_8).trans hx106_8
       replace hx106_9 := (hbc HB.out hx106_9).trans hx106_9
       replace hx106_10 := (hbc HB.out hx106_10).trans hx106_10
       replace hx106_11 := (hbc HB.out hx106_11).trans hx106_11
       replace hx106_12 := (hbc HB.out hx106_12).trans hx106_12
       replace hx106_13 := (hbc HB.out hx106_13).trans hx106_13
       replace p106 := eq_true p106
       replace q106 := eq_true q106
       go_wp2
       go_meet
       case rel => exact ⟨_, (decide (((rd_T67 l0 a1).f5) > 100)), (by first | rfl | (simp; done) | (simp [*]; done) | (simp; unfold wrap64; omega)), H', ⟨by first | omega | exact Nat.le_refl _⟩, ⟨by (with_reducible repeat (first | refine z11q ?_ _ | refine z13q ?_ | refine z10q ?_ _)); exact BK104.out⟩, ⟨by repeat (first | (with_reducible first | exact HB.out | apply z2q | apply z3q | apply z4q | refine z8q ?_ GE104.out) | exact HB.out)⟩⟩
     ·rw [if_neg c9] at H
      exact absurd H (by simp)
    ·rw [if_neg c8] at H
     exact absurd H (by simp)
 case rest =>
  clear HC4
  try clear c1
  try clear p1
  try clear q1
  try clear hx1
  try clear p2
  try clear c6
  try clear c6b0
  try clear c7
  try clear c7b0
  try clear c8
  try clear c8b0
  try clear c9
  try clear c9b0
  try clear c10
  try clear c10b0
  try clear p10
  try clear q10
  try clear hx10
  try clear hx105_0
  try clear hx105_1
  try clear hx105_10
  try clear hx105_11
  try clear hx105_12
  try clear hx105_13
  try clear hx105_2
  try clear hx105_3
  try clear hx105_4
  try clear hx105_5
  try clear hx105_6
  try clear hx105_7
  try clear hx105_8
  try clear hx105_9
  try clear hx106_0
  try clear hx106_1
  try clear hx106_10
  try clear hx106_11
  try clear hx106_12
  try clear hx106_13
  try clear hx106_2
  try clear hx106_3
  try clear hx106_4
  try clear hx106_5
  try clear hx106_6
  try clear hx106_7
  try clear hx106_8
  try clear hx106_9
  try clear p105
  try clear p106
  try clear q105
  try clear q106
  obtain ⟨kq, x35_3, rfl, HA, HJ3, BK104, HB⟩ := hcut
  cases kq with
  | zero => exact absurd HA.out (by simp [spec_l4Take.j0])
  | succ kj3 =>
   have H := HA.out
   clear HA
   simp only [spec_l4Take.j0] at H
   by_cases c11 : x35_3 = true
   ·subst c11
    have H1 : (some (0, (⟨#[]⟩ : ByteArray), false, 0, 0, 0, 0, false, false, 0, 0, false, false, 0, ([] : List (S70)), (-1))) = some (r1, r2, r3, r4, r5, r6, r7, r8, r9, r10, r11, r12, r13, r14, r15, r16) := by rw [if_pos rfl] at H; exact H
    clear H
    have H := H1
    clear H1
    simp only [Option.some.injEq, Prod.mk.injEq] at H
    obtain ⟨rfl, rfl, rfl, rfl, rfl, rfl, rfl, rfl, rfl, rfl, rfl, rfl, rfl, rfl, rfl, rfl⟩ := H
    obtain ⟨hcz12_0, hcz12_1, hcz12_2, hcz12_3, hcz12_4, hcz12_5, hcz12_6, hcz12_7, hcz12_8, hcz12_9, hcz12_10, hcz12_11, hcz12_12, hcz12_13, hcz12_14, hfz12_0, hfz12_1, hfz12_2, hfz12_3, hfz12_4, hfz12_5, hfz12_6, hfz12_7, hfz12_8, hfz12_9, hfz12_10, hfz12_11, hfz12_12, hfz12_13, hfz12_14⟩ := cr15 (w := wc) (g := gb104) BK104.out
    go_wp2
    refine bodyPost_ret (results_ct rfl _ _ gb104 70 #[.int .i64 0, .string (⟨#[]⟩ : ByteArray), .bool false, .int .i64 0, .int .i64 0, .int .i64 0, .int .i64 0, .bool false, .bool false, .int .i64 0, .int .i64 0, .bool false, .bool false, .int .i64 0, .slice none 0 0] (0, 0) _ rfl (by refine cz ?_; refine z9q (cs := #[.int .i64 0, .string (⟨#[]⟩ : ByteArray), .bool false, .int .i64 0, .int .i64 0, .int .i64 0, .int .i64 0, .bool false, .bool false, .int .i64 0, .int .i64 0, .bool false, .bool false, .int .i64 0, .slice none 0 0]) ?_ 14 _ rfl; refine cz ?_; refine z9q (cs := #[.int .i64 0, .string (⟨#[]⟩ : ByteArray), .bool false, .int .i64 0, .int .i64 0, .int .i64 0, .int .i64 0, .bool false, .bool false, .int .i64 0, .int .i64 0, .bool false, .bool false, .int .i64 0, .slice none 0 0]) ?_ 13 _ rfl; refine cz ?_; refine z9q (cs := #[.int .i64 0, .string (⟨#[]⟩ : ByteArray), .bool false, .int .i64 0, .int .i64 0, .int .i64 0, .int .i64 0, .bool false, .bool false, .int .i64 0, .int .i64 0, .bool false, .bool false, .int .i64 0, .slice none 0 0]) ?_ 12 _ rfl; refine cz ?_; refine z9q (cs := #[.int .i64 0, .string (⟨#[]⟩ : ByteArray), .bool false, .int .i64 0, .int .i64 0, .int .i64 0, .int .i64 0, .bool false, .bool false, .int .i64 0, .int .i64 0, .bool false, .bool false, .int .i64 0, .slice none 0 0]) ?_ 11 _ rfl; refine cz ?_; refine z9q (cs := #[.int .i64 0, .string (⟨#[]⟩ : ByteArray), .bool false, .int .i64 0, .int .i64 0, .int .i64 0, .int .i64 0, .bool false, .bool false, .int .i64 0, .int .i64 0, .bool false, .bool false, .int .i64 0, .slice none 0 0]) ?_ 10 _ rfl; refine cz ?_; refine z9q (cs := #[.int .i64 0, .string (⟨#[]⟩ : ByteArray), .bool false, .int .i64 0, .int .i64 0, .int .i64 0, .int .i64 0, .bool false, .bool false, .int .i64 0, .int .i64 0, .bool false, .bool false, .int .i64 0, .slice none 0 0]) ?_ 9 _ rfl; refine cz ?_; refine z9q (cs := #[.int .i64 0, .string (⟨#[]⟩ : ByteArray), .bool false, .int .i64 0, .int .i64 0, .int .i64 0, .int .i64 0, .bool false, .bool false, .int .i64 0, .int .i64 0, .bool false, .bool false, .int .i64 0, .slice none 0 0]) ?_ 8 _ rfl; refine cz ?_; refine z9q (cs := #[.int .i64 0, .string (⟨#[]⟩ : ByteArray), .bool false, .int .i64 0, .int .i64 0, .int .i64 0, .int .i64 0, .bool false, .bool false, .int .i64 0, .int .i64 0, .bool false, .bool false, .int .i64 0, .slice none 0 0]) ?_ 7 _ rfl; refine cz ?_; refine z9q (cs := #[.int .i64 0, .string (⟨#[]⟩ : ByteArray), .bool false, .int .i64 0, .int .i64 0, .int .i64 0, .int .i64 0, .bool false, .bool false, .int .i64 0, .int .i64 0, .bool false, .bool false, .int .i64 0, .slice none 0 0]) ?_ 6 _ rfl; refine cz ?_; refine z9q (cs := #[.int .i64 0, .string (⟨#[]⟩ : ByteArray), .bool false, .int .i64 0, .int .i64 0, .int .i64 0, .int .i64 0, .bool false, .bool false, .int .i64 0, .int .i64 0, .bool false, .bool false, .int .i64 0, .slice none 0 0]) ?_ 5 _ rfl; refine cz ?_; refine z9q (cs := #[.int .i64 0, .string (⟨#[]⟩ : ByteArray), .bool false, .int .i64 0, .int .i64 0, .int .i64 0, .int .i64 0, .bool false, .bool false, .int .i64 0, .int .i64 0, .bool false, .bool false, .int .i64 0, .slice none 0 0]) ?_ 4 _ rfl; refine cz ?_; refine z9q (cs := #[.int .i64 0, .string (⟨#[]⟩ : ByteArray), .bool false, .int .i64 0, .int .i64 0, .int .i64 0, .int .i64 0, .bool false, .bool false, .int .i64 0, .int .i64 0, .bool false, .bool false, .int .i64 0, .slice none 0 0]) ?_ 3 _ rfl; refine cz ?_; refine z9q (cs := #[.int .i64 0, .string (⟨#[]⟩ : ByteArray), .bool false, .int .i64 0, .int .i64 0, .int .i64 0, .int .i64 0, .bool false, .bool false, .int .i64 0, .int .i64 0, .bool false, .bool false, .int .i64 0, .slice none 0 0]) ?_ 2 _ rfl; refine cz ?_; refine z9q (cs := #[.int .i64 0, .string (⟨#[]⟩ : ByteArray), .bool false, .int .i64 0, .int .i64 0, .int .i64 0, .int .i64 0, .bool false, .bool false, .int .i64 0, .int .i64 0, .bool false, .bool false, .int .i64 0, .slice none 0 0]) ?_ 1 _ rfl; refine cz ?_; refine z9q (cs := #[.int .i64 0, .string (⟨#[]⟩ : ByteArray), .bool false, .int .i64 0, .int .i64 0, .int .i64 0, .int .i64 0, .bool false, .bool false, .int .i64 0, .int .i64 0, .bool false, .bool false, .int .i64 0, .slice none 0 0]) ?_ 0 _ rfl; exact cy BK104.out) Tryz.underlying70 rfl (by kernel_rfl)) rfl ?_
    exact ⟨_, by first | rfl | (simp [errW_none, errW_some] <;> rfl) | (simp [*, errW_none, errW_some] <;> rfl), by first | exact Kd.R_nil _ _ _ _ _ | exact Kd.N_nil _ _ _ _ _ | exact Kd.V_nil _ _ _ _ _ | exact Kd.Q_nil _ _ _ _ _ | exact Kd.S_nil _ _ _ _ _, by repeat (first | (with_reducible first | exact HB.out | apply z2q | apply z3q | apply z4q | refine z8q ?_ GE104.out) | exact HB.out)⟩
   ·replace c11 := Bool.eq_false_iff.mpr c11
    subst c11
    have H1 : (if 0 ≤ a1 then (if a1 < (l0.length : Int) then (spec_l4Take.l0 kj3 l0 (wrap64 (a1 + 1)) a2 0 ((rd_T67 l0 a1).f0) ((rd_T67 l0 a1).f1) ((rd_T67 l0 a1).f2.f0) ((rd_T67 l0 a1).f2.f1) ((rd_T67 l0 a1).f2.f2) ((rd_T67 l0 a1).f3.f0) ((rd_T67 l0 a1).f3.f1) ((rd_T67 l0 a1).f3.f2) ((rd_T67 l0 a1).f3.f3) ((rd_T67 l0 a1).f4.f0) ((rd_T67 l0 a1).f4.f1) ((rd_T67 l0 a1).f4.f2) ((rd_T67 l0 a1).f4.f3) ((rd_T67 l0 a1).f5) ([] : List (S70))) else (none)) else (none)) = some (r1, r2, r3, r4, r5, r6, r7, r8, r9, r10, r11, r12, r13, r14, r15, r16) := by rw [if_neg (show ¬ (false = true) by decide)] at H; exact H
    clear H
    have H := H1
    clear H1
    by_cases c13 : 0 ≤ a1
    ·rw [if_pos c13] at H
     have c13b0 : decide (0 ≤ a1) = true := decide_eq_true c13
     clear c13
     by_cases c14 : a1 < (l0.length : Int)
     ·rw [if_pos c14] at H
      have c14b0 : decide (a1 < (l0.length : Int)) = true := decide_eq_true c14
      clear c14
      have H' := Aside0.mk H
      clear H
      have p107 : 0 ≤ (a1 : Int) := of_decide_eq_true (by first | (with_reducible assumption) | assumption)
      have q107 : a1 < (l0.length : Int) := of_decide_eq_true (by first | (with_reducible assumption) | assumption)
      obtain ⟨ad107, e107, hx107_0, hx107_1, hx107_2, hx107_3, hx107_4, hx107_5, hx107_6, hx107_7, hx107_8, hx107_9, hx107_10, hx107_11, hx107_12, hx107_13⟩ := at_T67 HR0.out a1 p107 q107
      cases e107
      replace hx107_0 := (hbc HB.out hx107_0).trans hx107_0
      replace hx107_1 := (hbc HB.out hx107_1).trans hx107_1
      replace hx107_2 := (hbc HB.out hx107_2).trans hx107_2
      replace hx107_3 := (hbc HB.out hx107_3).trans hx107_3
      replace hx107_4 := (hbc HB.out hx107_4).trans hx107_4
      replace hx107_5 := (hbc HB.out hx107_5).trans hx107_5
      replace hx107_6 := (hbc HB.out hx107_6).trans hx107_6
      replace hx107_7 := (hbc HB.out hx107_7).trans hx107_7
      replace hx107_8 := (hbc HB.out hx107_8).trans hx107_8
      replace hx107_9 := (hbc HB.out hx107_9).trans hx107_9
      replace hx107_10 := (hbc HB.out hx107_10).trans hx107_10
      replace hx107_11 := (hbc HB.out hx107_11).trans hx107_11
      replace hx107_12 := (hbc HB.out hx107_12).trans hx107_12
      replace hx107_13 := (hbc HB.out hx107_13).trans hx107_13
      replace p107 := eq_true p107
      replace q107 := eq_true q107
      go_wp2_with (first | ((with_reducible refine z17q (N := 8) rfl ?_); refine z16q ?hg (N := 8) ?hd (cs := #[.int .i64 0, .string (⟨#[]⟩ : ByteArray), .bool false, .int .i64 0, .int .i64 0, .int .i64 0, .int .i64 0, .bool false, .bool false, .int .i64 0, .int .i64 0, .bool false, .bool false, .int .i64 0, .slice none 0 0]) (t := 70) ?hr ?_; (case hd => rfl); (case hg => rfl); (case hr => first | (go_simp; done) | (go_simp; rfl)); intro gb108 hg w15 hbox hb; have n0_ := Aside0.mk (z15q (g := gb104) (o := .cells #[.int .i64 0, .string (⟨#[]⟩ : ByteArray), .bool false, .int .i64 0, .int .i64 0, .int .i64 0, .int .i64 0, .bool false, .bool false, .int .i64 0, .int .i64 0, .bool false, .bool false, .int .i64 0, .slice none 0 0] 70 (0, 0)) (cy BK104.out) hb); have n1_ := Aside0.mk (z6q (ibh HB.out) hb); have n2_ := Aside0.mk (hbox); have n3_ := Aside0.mk ((by rw [hg]; exact (z7q (ibh HB.out)) : w.heap.size ≤ gb108)); have n4_ := Aside0.mk ((by rw [hg]; exact (z7q (ibh HB.out)) : w.heap.size ≤ gb108)); have n5_ := Aside0.mk ((by rw [hg]; exact Nat.ne_of_lt (z21q (g := gb104) (o := .cells #[.int .i64 0, .string (⟨#[]⟩ : ByteArray), .bool false, .int .i64 0, .int .i64 0, .int .i64 0, .int .i64 0, .bool false, .bool false, .int .i64 0, .int .i64 0, .bool false, .bool false, .int .i64 0, .slice none 0 0] 70 (0, 0)) (cy BK104.out)) : gb104 ≠ gb108)); have n6_ := Aside0.mk ((by rw [hg]; exact Nat.ne_of_gt (z21q (g := gb104) (o := .cells #[.int .i64 0, .string (⟨#[]⟩ : ByteArray), .bool false, .int .i64 0, .int .i64 0, .int .i64 0, .int .i64 0, .bool false, .bool false, .int .i64 0, .int .i64 0, .bool false, .bool false, .int .i64 0, .slice none 0 0] 70 (0, 0)) (cy BK104.out)) : gb108 ≠ gb104)); clear BK104; clear HB; have BK104 := n0_; have HB := n1_; have BK108 := n2_; have GW108 := n3_; have GE108 := n4_; have NB104_108 := n5_; have NB108_104 := n6_; clear n0_ n1_ n2_ n3_ n4_ n5_ n6_; clear hb hbox hg; have hnb16 := NB108_104.out; have hnc16 := NB104_108.out; obtain ⟨hcz17_0, hcz17_1, hcz17_2, hcz17_3, hcz17_4, hcz17_5, hcz17_6, hcz17_7, hcz17_8, hcz17_9, hcz17_10, hcz17_11, hcz17_12, hcz17_13, hcz17_14, hfz17_0, hfz17_1, hfz17_2, hfz17_3, hfz17_4, hfz17_5, hfz17_6, hfz17_7, hfz17_8, hfz17_9, hfz17_10, hfz17_11, hfz17_12, hfz17_13, hfz17_14⟩ := cr15 (w := w15) (g := gb108) BK108.out))
      go_loopg [1, 9] kj3 (fun kq v1 v9 w' => ∃ (x1_2 : Int) (x9_2 : Int) (x105000_2 : Int) (x105001_2 : ByteArray) (x105002_2 : Bool) (x105003_2 : Int) (x105004_2 : Int) (x105005_2 : Int) (x105006_2 : Int) (x105007_2 : Bool) (x105008_2 : Bool) (x105009_2 : Int) (x105010_2 : Int) (x105011_2 : Bool) (x105012_2 : Bool) (x105013_2 : Int) (x109014_2 : List (S70)) (u109014 : Value), v1 = .int .i64 x1_2 ∧ v9 = .int .i64 x9_2 ∧ Aside0 (spec_l4Take.l0 kq l0 x1_2 a2 x9_2 ((rd_T67 l0 a1).f0) ((rd_T67 l0 a1).f1) ((rd_T67 l0 a1).f2.f0) ((rd_T67 l0 a1).f2.f1) ((rd_T67 l0 a1).f2.f2) ((rd_T67 l0 a1).f3.f0) ((rd_T67 l0 a1).f3.f1) ((rd_T67 l0 a1).f3.f2) ((rd_T67 l0 a1).f3.f3) ((rd_T67 l0 a1).f4.f0) ((rd_T67 l0 a1).f4.f1) ((rd_T67 l0 a1).f4.f2) ((rd_T67 l0 a1).f4.f3) ((rd_T67 l0 a1).f5) x109014_2 = some (r1, r2, r3, r4, r5, r6, r7, r8, r9, r10, r11, r12, r13, r14, r15, r16)) ∧ Aside0 (kq ≤ kj3) ∧ Aside0 (Kd.R k70 70 w' w.heap.size (fun k_ => k_ ≠ gb104 ∧ k_ ≠ gb108) u109014 x109014_2) ∧ Aside0 (w'.heap[gb104]? = some (.cells #[.int .i64 x105000_2, .string x105001_2, .bool x105002_2, .int .i64 x105003_2, .int .i64 x105004_2, .int .i64 x105005_2, .int .i64 x105006_2, .bool x105007_2, .bool x105008_2, .int .i64 x105009_2, .int .i64 x105010_2, .bool x105011_2, .bool x105012_2, .int .i64 x105013_2, (.slice none 0 0)] 70 (0, 0))) ∧ Aside0 (w'.heap[gb108]? = some (.cells #[.int .i64 ((rd_T67 l0 a1).f0), .string ((rd_T67 l0 a1).f1), .bool ((rd_T67 l0 a1).f2.f0), .int .i64 ((rd_T67 l0 a1).f2.f1), .int .i64 ((rd_T67 l0 a1).f2.f2), .int .i64 ((rd_T67 l0 a1).f3.f0), .int .i64 ((rd_T67 l0 a1).f3.f1), .bool ((rd_T67 l0 a1).f3.f2), .bool ((rd_T67 l0 a1).f3.f3), .int .i64 ((rd_T67 l0 a1).f4.f0), .int .i64 ((rd_T67 l0 a1).f4.f1), .bool ((rd_T67 l0 a1).f4.f2), .bool ((rd_T67 l0 a1).f4.f3), .int .i64 ((rd_T67 l0 a1).f5), u109014] 70 (0, 0))) ∧ Aside0 (Below w.heap.size w w'))
      case atStart => exact ⟨(wrap64 (a1 + 1)), (0), (0), ((⟨#[]⟩ : ByteArray)), (false), (0), (0), (0), (0), (false), (false), (0), (0), (false), (false), (0), (([] : List (S70))), (.slice none 0 0), (by first | rfl | (simp; done) | (simp [*]; done) | (simp; unfold wrap64; omega)), (by first | rfl | (simp; done) | (simp [*]; done) | (simp; unfold wrap64; omega)), H', ⟨Nat.le_refl _⟩, ⟨by first | exact Kd.R_nil _ _ _ _ _ | exact Kd.N_nil _ _ _ _ _ | exact Kd.V_nil _ _ _ _ _ | exact Kd.Q_nil _ _ _ _ _ | exact Kd.S_nil _ _ _ _ _⟩, ⟨by (with_reducible repeat (first | refine z11q ?_ _ | refine z13q ?_ | refine z10q ?_ _)); refine z18q ?_ NB104_108.out _; (with_reducible repeat (first | refine z11q ?_ _ | refine z13q ?_ | refine z10q ?_ _)); refine z18q ?_ NB104_108.out _; (with_reducible repeat (first | refine z11q ?_ _ | refine z13q ?_ | refine z10q ?_ _)); refine z18q ?_ NB104_108.out _; (with_reducible repeat (first | refine z11q ?_ _ | refine z13q ?_ | refine z10q ?_ _)); refine z18q ?_ NB104_108.out _; (with_reducible repeat (first | refine z11q ?_ _ | refine z13q ?_ | refine z10q ?_ _)); refine z18q ?_ NB104_108.out _; (with_reducible repeat (first | refine z11q ?_ _ | refine z13q ?_ | refine z10q ?_ _)); refine z18q ?_ NB104_108.out _; (with_reducible repeat (first | refine z11q ?_ _ | refine z13q ?_ | refine z10q ?_ _)); refine z18q ?_ NB104_108.out _; (with_reducible repeat (first | refine z11q ?_ _ | refine z13q ?_ | refine z10q ?_ _)); refine z18q ?_ NB104_108.out _; (with_reducible repeat (first | refine z11q ?_ _ | refine z13q ?_ | refine z10q ?_ _)); refine z18q ?_ NB104_108.out _; (with_reducible repeat (first | refine z11q ?_ _ | refine z13q ?_ | refine z10q ?_ _)); refine z18q ?_ NB104_108.out _; (with_reducible repeat (first | refine z11q ?_ _ | refine z13q ?_ | refine z10q ?_ _)); refine z18q ?_ NB104_108.out _; (with_reducible repeat (first | refine z11q ?_ _ | refine z13q ?_ | refine z10q ?_ _)); refine z18q ?_ NB104_108.out _; (with_reducible repeat (first | refine z11q ?_ _ | refine z13q ?_ | refine z10q ?_ _)); refine z18q ?_ NB104_108.out _; (with_reducible repeat (first | refine z11q ?_ _ | refine z13q ?_ | refine z10q ?_ _)); refine z18q ?_ NB104_108.out _; (with_reducible repeat (first | refine z11q ?_ _ | refine z13q ?_ | refine z10q ?_ _)); refine z18q ?_ NB104_108.out _; (with_reducible repeat (first | refine z11q ?_ _ | refine z13q ?_ | refine z10q ?_ _)); exact BK104.out⟩, ⟨by refine cz ?_; refine z9q (cs := #[.int .i64 ((rd_T67 l0 a1).f0), .string ((rd_T67 l0 a1).f1), .bool ((rd_T67 l0 a1).f2.f0), .int .i64 ((rd_T67 l0 a1).f2.f1), .int .i64 ((rd_T67 l0 a1).f2.f2), .int .i64 ((rd_T67 l0 a1).f3.f0), .int .i64 ((rd_T67 l0 a1).f3.f1), .bool ((rd_T67 l0 a1).f3.f2), .bool ((rd_T67 l0 a1).f3.f3), .int .i64 ((rd_T67 l0 a1).f4.f0), .int .i64 ((rd_T67 l0 a1).f4.f1), .bool ((rd_T67 l0 a1).f4.f2), .bool ((rd_T67 l0 a1).f4.f3), .int .i64 ((rd_T67 l0 a1).f5), .slice none 0 0]) ?_ 14 _ rfl; refine cz ?_; refine z9q (cs := #[.int .i64 ((rd_T67 l0 a1).f0), .string ((rd_T67 l0 a1).f1), .bool ((rd_T67 l0 a1).f2.f0), .int .i64 ((rd_T67 l0 a1).f2.f1), .int .i64 ((rd_T67 l0 a1).f2.f2), .int .i64 ((rd_T67 l0 a1).f3.f0), .int .i64 ((rd_T67 l0 a1).f3.f1), .bool ((rd_T67 l0 a1).f3.f2), .bool ((rd_T67 l0 a1).f3.f3), .int .i64 ((rd_T67 l0 a1).f4.f0), .int .i64 ((rd_T67 l0 a1).f4.f1), .bool ((rd_T67 l0 a1).f4.f2), .bool ((rd_T67 l0 a1).f4.f3), .int .i64 0, .slice none 0 0]) ?_ 13 _ rfl; refine cz ?_; refine z9q (cs := #[.int .i64 ((rd_T67 l0 a1).f0), .string ((rd_T67 l0 a1).f1), .bool ((rd_T67 l0 a1).f2.f0), .int .i64 ((rd_T67 l0 a1).f2.f1), .int .i64 ((rd_T67 l0 a1).f2.f2), .int .i64 ((rd_T67 l0 a1).f3.f0), .int .i64 ((rd_T67 l0 a1).f3.f1), .bool ((rd_T67 l0 a1).f3.f2), .bool ((rd_T67 l0 a1).f3.f3), .int .i64 ((rd_T67 l0 a1).f4.f0), .int .i64 ((rd_T67 l0 a1).f4.f1), .bool ((rd_T67 l0 a1).f4.f2), .bool false, .int .i64 0, .slice none 0 0]) ?_ 12 _ rfl; refine cz ?_; refine z9q (cs := #[.int .i64 ((rd_T67 l0 a1).f0), .string ((rd_T67 l0 a1).f1), .bool ((rd_T67 l0 a1).f2.f0), .int .i64 ((rd_T67 l0 a1).f2.f1), .int .i64 ((rd_T67 l0 a1).f2.f2), .int .i64 ((rd_T67 l0 a1).f3.f0), .int .i64 ((rd_T67 l0 a1).f3.f1), .bool ((rd_T67 l0 a1).f3.f2), .bool ((rd_T67 l0 a1).f3.f3), .int .i64 ((rd_T67 l0 a1).f4.f0), .int .i64 ((rd_T67 l0 a1).f4.f1), .bool false, .bool false, .int .i64 0, .slice none 0 0]) ?_ 11 _ rfl; refine cz ?_; refine z9q (cs := #[.int .i64 ((rd_T67 l0 a1).f0), .string ((rd_T67 l0 a1).f1), .bool ((rd_T67 l0 a1).f2.f0), .int .i64 ((rd_T67 l0 a1).f2.f1), .int .i64 ((rd_T67 l0 a1).f2.f2), .int .i64 ((rd_T67 l0 a1).f3.f0), .int .i64 ((rd_T67 l0 a1).f3.f1), .bool ((rd_T67 l0 a1).f3.f2), .bool ((rd_T67 l0 a1).f3.f3), .int .i64 ((rd_T67 l0 a1).f4.f0), .int .i64 0, .bool false, .bool false, .int .i64 0, .slice none 0 0]) ?_ 10 _ rfl; refine cz ?_; refine z9q (cs := #[.int .i64 ((rd_T67 l0 a1).f0), .string ((rd_T67 l0 a1).f1), .bool ((rd_T67 l0 a1).f2.f0), .int .i64 ((rd_T67 l0 a1).f2.f1), .int .i64 ((rd_T67 l0 a1).f2.f2), .int .i64 ((rd_T67 l0 a1).f3.f0), .int .i64 ((rd_T67 l0 a1).f3.f1), .bool ((rd_T67 l0 a1).f3.f2), .bool ((rd_T67 l0 a1).f3.f3), .int .i64 0, .int .i64 0, .bool false, .bool false, .int .i64 0, .slice none 0 0]) ?_ 9 _ rfl; refine cz ?_; refine z9q (cs := #[.int .i64 ((rd_T67 l0 a1).f0), .string ((rd_T67 l0 a1).f1), .bool ((rd_T67 l0 a1).f2.f0), .int .i64 ((rd_T67 l0 a1).f2.f1), .int .i64 ((rd_T67 l0 a1).f2.f2), .int .i64 ((rd_T67 l0 a1).f3.f0), .int .i64 ((rd_T67 l0 a1).f3.f1), .bool ((rd_T67 l0 a1).f3.f2), .bool false, .int .i64 0, .int .i64 0, .bool false, .bool false, .int .i64 0, .slice none 0 0]) ?_ 8 _ rfl; refine cz ?_; refine z9q (cs := #[.int .i64 ((rd_T67 l0 a1).f0), .string ((rd_T67 l0 a1).f1), .bool ((rd_T67 l0 a1).f2.f0), .int .i64 ((rd_T67 l0 a1).f2.f1), .int .i64 ((rd_T67 l0 a1).f2.f2), .int .i64 ((rd_T67 l0 a1).f3.f0), .int .i64 ((rd_T67 l0 a1).f3.f1), .bool false, .bool false, .int .i64 0, .int .i64 0, .bool false, .bool false, .int .i64 0, .slice none 0 0]) ?_ 7 _ rfl; refine cz ?_; refine z9q (cs := #[.int .i64 ((rd_T67 l0 a1).f0), .string ((rd_T67 l0 a1).f1), .bool ((rd_T67 l0 a1).f2.f0), .int .i64 ((rd_T67 l0 a1).f2.f1), .int .i64 ((rd_T67 l0 a1).f2.f2), .int .i64 ((rd_T67 l0 a1).f3.f0), .int .i64 0, .bool false, .bool false, .int .i64 0, .int .i64 0, .bool false, .bool false, .int .i64 0, .slice none 0 0]) ?_ 6 _ rfl; refine cz ?_; refine z9q (cs := #[.int .i64 ((rd_T67 l0 a1).f0), .string ((rd_T67 l0 a1).f1), .bool ((rd_T67 l0 a1).f2.f0), .int .i64 ((rd_T67 l0 a1).f2.f1), .int .i64 ((rd_T67 l0 a1).f2.f2), .int .i64 0, .int .i64 0, .bool false, .bool false, .int .i64 0, .int .i64 0, .bool false, .bool false, .int .i64 0, .slice none 0 0]) ?_ 5 _ rfl; refine cz ?_; refine z9q (cs := #[.int .i64 ((rd_T67 l0 a1).f0), .string ((rd_T67 l0 a1).f1), .bool ((rd_T67 l0 a1).f2.f0), .int .i64 ((rd_T67 l0 a1).f2.f1), .int .i64 0, .int .i64 0, .int .i64 0, .bool false, .bool false, .int .i64 0, .int .i64 0, .bool false, .bool false, .int .i64 0, .slice none 0 0]) ?_ 4 _ rfl; refine cz ?_; refine z9q (cs := #[.int .i64 ((rd_T67 l0 a1).f0), .string ((rd_T67 l0 a1).f1), .bool ((rd_T67 l0 a1).f2.f0), .int .i64 0, .int .i64 0, .int .i64 0, .int .i64 0, .bool false, .bool false, .int .i64 0, .int .i64 0, .bool false, .bool false, .int .i64 0, .slice none 0 0]) ?_ 3 _ rfl; refine cz ?_; refine z9q (cs := #[.int .i64 ((rd_T67 l0 a1).f0), .string ((rd_T67 l0 a1).f1), .bool false, .int .i64 0, .int .i64 0, .int .i64 0, .int .i64 0, .bool false, .bool false, .int .i64 0, .int .i64 0, .bool false, .bool false, .int .i64 0, .slice none 0 0]) ?_ 2 _ rfl; refine cz ?_; refine z9q (cs := #[.int .i64 ((rd_T67 l0 a1).f0), .string (⟨#[]⟩ : ByteArray), .bool false, .int .i64 0, .int .i64 0, .int .i64 0, .int .i64 0, .bool false, .bool false, .int .i64 0, .int .i64 0, .bool false, .bool false, .int .i64 0, .slice none 0 0]) ?_ 1 _ rfl; refine cz ?_; refine z9q (cs := #[.int .i64 0, .string (⟨#[]⟩ : ByteArray), .bool false, .int .i64 0, .int .i64 0, .int .i64 0, .int .i64 0, .bool false, .bool false, .int .i64 0, .int .i64 0, .bool false, .bool false, .int .i64 0, .slice none 0 0]) ?_ 0 _ rfl; (with_reducible repeat (first | refine z11q ?_ _ | refine z13q ?_ | refine z10q ?_ _)); exact BK108.out⟩, ⟨by repeat (first | (with_reducible first | exact HB.out | apply z2q | apply z3q | apply z4q | refine z8q ?_ GE104.out | refine z8q ?_ GE108.out) | exact HB.out)⟩⟩
      case round =>
       clear H'
       try clear c1
       try clear p1
       try clear q1
       try clear hx1
       try clear p2
       try clear c6
       try clear c6b0
       try clear p6
       try clear c7
       try clear c7b0
       try clear c8
       try clear c8b0
       try clear c9
       try clear c9b0
       try clear c10
       try clear c10b0
       try clear p10
       try clear q10
       try clear hx10
       try clear c11
       try clear c13
       try clear c13b0
       try clear c14
       try clear c14b0
       try clear c16
       try clear hcz12_0
       try clear hcz12_1
       try clear hcz12_10
       try clear hcz12_11
       try clear hcz12_12
       try clear hcz12_13
       try clear hcz12_14
       try clear hcz12_2
       try clear hcz12_3
       try clear hcz12_4
       try clear hcz12_5
       try clear hcz12_6
       try clear hcz12_7
       try clear hcz12_8
       try clear hcz12_9
       try clear hcz17_0
       try clear hcz17_1
       try clear hcz17_10
       try clear hcz17_11
       try clear hcz17_12
       try clear hcz17_13
       try clear hcz17_14
       try clear hcz17_2
       try clear hcz17_3
       try clear hcz17_4
       try clear hcz17_5
       try clear hcz17_6
       try clear hcz17_7
       try clear hcz17_8
       try clear hcz17_9
       try clear hfz12_0
       try clear hfz12_1
       try clear hfz12_10
       try clear hfz12_11
       try clear hfz12_12
       try clear hfz12_13
       try clear hfz12_14
       try clear hfz12_2
       try clear hfz12_3
       try clear hfz12_4
       try clear hfz12_5
       try clear hfz12_6
       try clear hfz12_7
       try clear hfz12_8
       try clear hfz12_9
       try clear hfz17_0
       try clear hfz17_1
       try clear hfz17_10
       try clear hfz17_11
       try clear hfz17_12
       try clear hfz17_13
       try clear hfz17_14
       try clear hfz17_2
       try clear hfz17_3
       try clear hfz17_4
       try clear hfz17_5
       try clear hfz17_6
       try clear hfz17_7
       try clear hfz17_8
       try clear hfz17_9
       try clear hx105_0
       try clear hx105_1
       try clear hx105_10
       try clear hx105_11
       try clear hx105_12
       try clear hx105_13
       try clear hx105_2
       try clear hx105_3
       try clear hx105_4
       try clear hx105_5
       try clear hx105_6
       try clear hx105_7
       try clear hx105_8
       try clear hx105_9
       try clear hx106_0
       try clear hx106_1
       try clear hx106_10
       try clear hx106_11
       try clear hx106_12
       try clear hx106_13
       try clear hx106_2
       try clear hx106_3
       try clear hx106_4
       try clear hx106_5
       try clear hx106_6
       try clear hx106_7
       try clear hx106_8
       try clear hx106_9
       try clear hx107_0
       try clear hx107_1
       try clear hx107_10
       try clear hx107_11
       try clear hx107_12
       try clear hx107_13
       try clear hx107_2
       try clear hx107_3
       try clear hx107_4
       try clear hx107_5
       try clear hx107_6
       try clear hx107_7
       try clear hx107_8
       try clear hx107_9
       try clear p1
       try clear p10
       try clear p105
       try clear p106
       try clear p107
       try clear p2
       try clear q1
       try clear q10
       try clear q105
       try clear q106
       try clear q107
       obtain ⟨x1_2, x9_2, x105000_2, x105001_2, x105002_2, x105003_2, x105004_2, x105005_2, x105006_2, x105007_2, x105008_2, x105009_2, x105010_2, x105011_2, x105012_2, x105013_2, x109014_2, u109014, rfl, rfl, HA, HK2, HO_109014, BK104, BK108, HB⟩ := hrel
       cases gk with
       | zero => exact absurd HA.out (by simp [spec_l4Take.l0])
       | succ k2 =>
        have H := HA.out
        clear HA
        simp only [spec_l4Take.l0] at H
        by_cases c18 : x9_2 < ((rd_T67 l0 a1).f5)
        ·rw [if_pos c18] at H
         have c18b0 : decide (x9_2 < ((rd_T67 l0 a1).f5)) = true := decide_eq_true c18
         clear c18
         replace H := Option.bind_eq_some_iff.mp H
         obtain ⟨⟨t109, t110, t111, t112, t113, t114, t115, t116, t117, t118, t119, t120, t121, t122, t123, t126⟩, A190, H⟩ := H
         replace H : (if t126 < 0 then (some (0, (⟨#[]⟩ : ByteArray), false, 0, 0, 0, 0, false, false, 0, 0, false, false, 0, ([] : List (S70)), (-1))) else (if x109014_2.length < 1099511627776 then (spec_l4Take.l0 k2 l0 t126 a2 (wrap64 (x9_2 + 1)) ((rd_T67 l0 a1).f0) ((rd_T67 l0 a1).f1) ((rd_T67 l0 a1).f2.f0) ((rd_T67 l0 a1).f2.f1) ((rd_T67 l0 a1).f2.f2) ((rd_T67 l0 a1).f3.f0) ((rd_T67 l0 a1).f3.f1) ((rd_T67 l0 a1).f3.f2) ((rd_T67 l0 a1).f3.f3) ((rd_T67 l0 a1).f4.f0) ((rd_T67 l0 a1).f4.f1) ((rd_T67 l0 a1).f4.f2) ((rd_T67 l0 a1).f4.f3) ((rd_T67 l0 a1).f5) (x109014_2 ++ [(⟨(⟨t109, t110, (⟨t111, t112, t113⟩ : S65), (⟨t114, t115, t116, t117⟩ : S47), (⟨t118, t119, t120, t121⟩ : S47), t122⟩ : S67), t123⟩ : S70)])) else (none))) = some (r1, r2, r3, r4, r5, r6, r7, r8, r9, r10, r11, r12, r13, r14, r15, r16) := H
         have A19 := Aside0.mk A190
         clear A190
         by_cases c20 : t126 < 0
         ·rw [if_pos c20] at H
          have c20b0 : decide (t126 < 0) = true := decide_eq_true c20
          clear c20
          simp only [Option.some.injEq, Prod.mk.injEq] at H
          obtain ⟨rfl, rfl, rfl, rfl, rfl, rfl, rfl, rfl, rfl, rfl, rfl, rfl, rfl, rfl, rfl, rfl⟩ := H
          have hnb21 := NB108_104.out
          have hnc21 := NB104_108.out
          obtain ⟨hcz22_0, hcz22_1, hcz22_2, hcz22_3, hcz22_4, hcz22_5, hcz22_6, hcz22_7, hcz22_8, hcz22_9, hcz22_10, hcz22_11, hcz22_12, hcz22_13, hcz22_14, hfz22_0, hfz22_1, hfz22_2, hfz22_3, hfz22_4, hfz22_5, hfz22_6, hfz22_7, hfz22_8, hfz22_9, hfz22_10, hfz22_11, hfz22_12, hfz22_13, hfz22_14⟩ := cr15 (w := wr) (g := gb108) BK108.out
          go_wp2_with (first | ((with_reducible refine z14q (f := 70) rfl ?_); refine z20q (some 56) rfl rfl Tryz.func70 (by kernel_rfl) rfl #[.slice (some ad107) l0.length c0, .int .i64 x1_2, .int .i64 (wrap64 (a2 + 1))] rfl (by (try simp only [map_toArray, map_cons, map_nil]); first | done | rfl | (simp only [length_drop, length_take]; rfl)) ?_; (with_reducible refine (ih k2 (by have := HJ3.out; have := HK2.out; omega) _ _ l0 x1_2 (wrap64 (a2 + 1)) t109 t110 t111 t112 t113 t114 t115 t116 t117 t118 t119 t120 t121 t122 t123 t126 _ ?side1 ?side2 A19.out).mono ?_); (case side1 => exact Kd.C_below HR0.out ib); (case side2 => exact HC0.out); rintro e w23 ⟨v124, rfl, ho0, hb⟩; refine ⟨_, rfl, ?_⟩; have n0_ := Aside0.mk (Kd.R_elder' (ro HO_109014.out) (Kd.R_base ho0) hb); have n1_ := Aside0.mk (Kd.R_lower (Kd.R_newB (Kd.R_newB (Kd.R_new' ho0 (Kd.R_lt (ro HO_109014.out))) (g := gb104) (o := .cells #[.int .i64 x105000_2, .string x105001_2, .bool x105002_2, .int .i64 x105003_2, .int .i64 x105004_2, .int .i64 x105005_2, .int .i64 x105006_2, .bool x105007_2, .bool x105008_2, .int .i64 x105009_2, .int .i64 x105010_2, .bool x105011_2, .bool x105012_2, .int .i64 x105013_2, .slice none 0 0] 70 (0, 0)) (cy BK104.out)) (g := gb108) (o := .cells #[.int .i64 ((rd_T67 l0 a1).f0), .string ((rd_T67 l0 a1).f1), .bool ((rd_T67 l0 a1).f2.f0), .int .i64 ((rd_T67 l0 a1).f2.f1), .int .i64 ((rd_T67 l0 a1).f2.f2), .int .i64 ((rd_T67 l0 a1).f3.f0), .int .i64 ((rd_T67 l0 a1).f3.f1), .bool ((rd_T67 l0 a1).f3.f2), .bool ((rd_T67 l0 a1).f3.f3), .int .i64 ((rd_T67 l0 a1).f4.f0), .int .i64 ((rd_T67 l0 a1).f4.f1), .bool ((rd_T67 l0 a1).f4.f2), .bool ((rd_T67 l0 a1).f4.f3), .int .i64 ((rd_T67 l0 a1).f5), u109014] 70 (0, 0)) (cy BK108.out)) (z7q (ibh HB.out))); have n2_ := Aside0.mk (z15q (cy BK104.out) hb); have n3_ := Aside0.mk (z15q (cy BK108.out) hb); have n4_ := Aside0.mk (z6q (ibh HB.out) hb); clear HO_109014; clear BK104; clear BK108; clear HB; have HO_109014 := n0_; have HO125 := n1_; have BK104 := n2_; have BK108 := n3_; have HB := n4_; clear n0_ n1_ n2_ n3_ n4_; (try clear hb); (try clear hb2); (try clear hk); (try clear hi); (try clear ho0)) | ((with_reducible refine z17q (N := 10) rfl ?_); refine z16q ?hg (N := 10) ?hd (cs := #[.int .i64 0, .string (⟨#[]⟩ : ByteArray), .bool false, .int .i64 0, .int .i64 0, .int .i64 0, .int .i64 0, .bool false, .bool false, .int .i64 0, .int .i64 0, .bool false, .bool false, .int .i64 0, .slice none 0 0]) (t := 70) ?hr ?_; (case hd => rfl); (case hg => rfl); (case hr => first | (go_simp; done) | (go_simp; rfl)); intro gb127 hg w24 hbox hb; have n0_ := Aside0.mk (Kd.R_below (Kd.R_elderB (ro HO_109014.out) gb127 (Nat.le_of_eq hg.symm)) hb); have n1_ := Aside0.mk (Kd.R_below (Kd.R_elderB (ro HO125.out) gb127 (Nat.le_of_eq hg.symm)) hb); have n2_ := Aside0.mk (z15q (cy BK104.out) hb); have n3_ := Aside0.mk (z15q (cy BK108.out) hb); have n4_ := Aside0.mk (z6q (ibh HB.out) hb); have n5_ := Aside0.mk (hbox); have n6_ := Aside0.mk ((by rw [hg]; exact (z7q (ibh HB.out)) : w.heap.size ≤ gb127)); have n7_ := Aside0.mk ((by rw [hg]; exact (z7q (ibh HB.out)) : w.heap.size ≤ gb127)); have n8_ := Aside0.mk ((by rw [hg]; exact Nat.ne_of_lt (z21q (cy BK104.out)) : gb104 ≠ gb127)); have n9_ := Aside0.mk ((by rw [hg]; exact Nat.ne_of_gt (z21q (cy BK104.out)) : gb127 ≠ gb104)); have n10_ := Aside0.mk ((by rw [hg]; exact Nat.ne_of_lt (z21q (cy BK108.out)) : gb108 ≠ gb127)); have n11_ := Aside0.mk ((by rw [hg]; exact Nat.ne_of_gt (z21q (cy BK108.out)) : gb127 ≠ gb108)); clear HO_109014; clear HO125; clear BK104; clear BK108; clear HB; have HO_109014 := n0_; have HO125 := n1_; have BK104 := n2_; have BK108 := n3_; have HB := n4_; have BK127 := n5_; have GW127 := n6_; have GE127 := n7_; have NB104_127 := n8_; have NB127_104 := n9_; have NB108_127 := n10_; have NB127_108 := n11_; clear n0_ n1_ n2_ n3_ n4_ n5_ n6_ n7_ n8_ n9_ n10_ n11_; clear hb hbox hg; have hnb25 := NB127_104.out; have hnc25 := NB104_127.out; have hnb26 := NB127_108.out; have hnc26 := NB108_127.out; obtain ⟨hcz27_0, hcz27_1, hcz27_2, hcz27_3, hcz27_4, hcz27_5, hcz27_6, hcz27_7, hcz27_8, hcz27_9, hcz27_10, hcz27_11, hcz27_12, hcz27_13, hcz27_14, hfz27_0, hfz27_1, hfz27_2, hfz27_3, hfz27_4, hfz27_5, hfz27_6, hfz27_7, hfz27_8, hfz27_9, hfz27_10, hfz27_11, hfz27_12, hfz27_13, hfz27_14⟩ := cr15 (w := w24) (g := gb127) BK127.out; obtain ⟨Ao28, co28, eo28⟩ := Kd.R_slice HO125.out; subst eo28; obtain ⟨hcz29_0, hcz29_1, hcz29_2, hcz29_3, hcz29_4, hcz29_5, hcz29_6, hcz29_7, hcz29_8, hcz29_9, hcz29_10, hcz29_11, hcz29_12, hcz29_13, hcz29_14, hfz29_0, hfz29_1, hfz29_2, hfz29_3, hfz29_4, hfz29_5, hfz29_6, hfz29_7, hfz29_8, hfz29_9, hfz29_10, hfz29_11, hfz29_12, hfz29_13, hfz29_14⟩ := cr15 (w := w24) (g := gb104) BK104.out))
          refine bodyPost_ret (results_ct rfl _ _ gb104 70 #[.int .i64 0, .string (⟨#[]⟩ : ByteArray), .bool false, .int .i64 0, .int .i64 0, .int .i64 0, .int .i64 0, .bool false, .bool false, .int .i64 0, .int .i64 0, .bool false, .bool false, .int .i64 0, .slice none 0 0] (0, 0) _ rfl (by refine cz ?_; refine z9q (cs := #[.int .i64 0, .string (⟨#[]⟩ : ByteArray), .bool false, .int .i64 0, .int .i64 0, .int .i64 0, .int .i64 0, .bool false, .bool false, .int .i64 0, .int .i64 0, .bool false, .bool false, .int .i64 0, .slice none 0 0]) ?_ 14 _ rfl; refine cz ?_; refine z9q (cs := #[.int .i64 0, .string (⟨#[]⟩ : ByteArray), .bool false, .int .i64 0, .int .i64 0, .int .i64 0, .int .i64 0, .bool false, .bool false, .int .i64 0, .int .i64 0, .bool false, .bool false, .int .i64 x105013_2, .slice none 0 0]) ?_ 13 _ rfl; refine cz ?_; refine z9q (cs := #[.int .i64 0, .string (⟨#[]⟩ : ByteArray), .bool false, .int .i64 0, .int .i64 0, .int .i64 0, .int .i64 0, .bool false, .bool false, .int .i64 0, .int .i64 0, .bool false, .bool x105012_2, .int .i64 x105013_2, .slice none 0 0]) ?_ 12 _ rfl; refine cz ?_; refine z9q (cs := #[.int .i64 0, .string (⟨#[]⟩ : ByteArray), .bool false, .int .i64 0, .int .i64 0, .int .i64 0, .int .i64 0, .bool false, .bool false, .int .i64 0, .int .i64 0, .bool x105011_2, .bool x105012_2, .int .i64 x105013_2, .slice none 0 0]) ?_ 11 _ rfl; refine cz ?_; refine z9q (cs := #[.int .i64 0, .string (⟨#[]⟩ : ByteArray), .bool false, .int .i64 0, .int .i64 0, .int .i64 0, .int .i64 0, .bool false, .bool false, .int .i64 0, .int .i64 x105010_2, .bool x105011_2, .bool x105012_2, .int .i64 x105013_2, .slice none 0 0]) ?_ 10 _ rfl; refine cz ?_; refine z9q (cs := #[.int .i64 0, .string (⟨#[]⟩ : ByteArray), .bool false, .int .i64 0, .int .i64 0, .int .i64 0, .int .i64 0, .bool false, .bool false, .int .i64 x105009_2, .int .i64 x105010_2, .bool x105011_2, .bool x105012_2, .int .i64 x105013_2, .slice none 0 0]) ?_ 9 _ rfl; refine cz ?_; refine z9q (cs := #[.int .i64 0, .string (⟨#[]⟩ : ByteArray), .bool false, .int .i64 0, .int .i64 0, .int .i64 0, .int .i64 0, .bool false, .bool x105008_2, .int .i64 x105009_2, .int .i64 x105010_2, .bool x105011_2, .bool x105012_2, .int .i64 x105013_2, .slice none 0 0]) ?_ 8 _ rfl; refine cz ?_; refine z9q (cs := #[.int .i64 0, .string (⟨#[]⟩ : ByteArray), .bool false, .int .i64 0, .int .i64 0, .int .i64 0, .int .i64 0, .bool x105007_2, .bool x105008_2, .int .i64 x105009_2, .int .i64 x105010_2, .bool x105011_2, .bool x105012_2, .int .i64 x105013_2, .slice none 0 0]) ?_ 7 _ rfl; refine cz ?_; refine z9q (cs := #[.int .i64 0, .string (⟨#[]⟩ : ByteArray), .bool false, .int .i64 0, .int .i64 0, .int .i64 0, .int .i64 x105006_2, .bool x105007_2, .bool x105008_2, .int .i64 x105009_2, .int .i64 x105010_2, .bool x105011_2, .bool x105012_2, .int .i64 x105013_2, .slice none 0 0]) ?_ 6 _ rfl; refine cz ?_; refine z9q (cs := #[.int .i64 0, .string (⟨#[]⟩ : ByteArray), .bool false, .int .i64 0, .int .i64 0, .int .i64 x105005_2, .int .i64 x105006_2, .bool x105007_2, .bool x105008_2, .int .i64 x105009_2, .int .i64 x105010_2, .bool x105011_2, .bool x105012_2, .int .i64 x105013_2, .slice none 0 0]) ?_ 5 _ rfl; refine cz ?_; refine z9q (cs := #[.int .i64 0, .string (⟨#[]⟩ : ByteArray), .bool false, .int .i64 0, .int .i64 x105004_2, .int .i64 x105005_2, .int .i64 x105006_2, .bool x105007_2, .bool x105008_2, .int .i64 x105009_2, .int .i64 x105010_2, .bool x105011_2, .bool x105012_2, .int .i64 x105013_2, .slice none 0 0]) ?_ 4 _ rfl; refine cz ?_; refine z9q (cs := #[.int .i64 0, .string (⟨#[]⟩ : ByteArray), .bool false, .int .i64 x105003_2, .int .i64 x105004_2, .int .i64 x105005_2, .int .i64 x105006_2, .bool x105007_2, .bool x105008_2, .int .i64 x105009_2, .int .i64 x105010_2, .bool x105011_2, .bool x105012_2, .int .i64 x105013_2, .slice none 0 0]) ?_ 3 _ rfl; refine cz ?_; refine z9q (cs := #[.int .i64 0, .string (⟨#[]⟩ : ByteArray), .bool x105002_2, .int .i64 x105003_2, .int .i64 x105004_2, .int .i64 x105005_2, .int .i64 x105006_2, .bool x105007_2, .bool x105008_2, .int .i64 x105009_2, .int .i64 x105010_2, .bool x105011_2, .bool x105012_2, .int .i64 x105013_2, .slice none 0 0]) ?_ 2 _ rfl; refine cz ?_; refine z9q (cs := #[.int .i64 0, .string x105001_2, .bool x105002_2, .int .i64 x105003_2, .int .i64 x105004_2, .int .i64 x105005_2, .int .i64 x105006_2, .bool x105007_2, .bool x105008_2, .int .i64 x105009_2, .int .i64 x105010_2, .bool x105011_2, .bool x105012_2, .int .i64 x105013_2, .slice none 0 0]) ?_ 1 _ rfl; refine cz ?_; refine z9q (cs := #[.int .i64 x105000_2, .string x105001_2, .bool x105002_2, .int .i64 x105003_2, .int .i64 x105004_2, .int .i64 x105005_2, .int .i64 x105006_2, .bool x105007_2, .bool x105008_2, .int .i64 x105009_2, .int .i64 x105010_2, .bool x105011_2, .bool x105012_2, .int .i64 x105013_2, .slice none 0 0]) ?_ 0 _ rfl; exact cy BK104.out) Tryz.underlying70 rfl (by kernel_rfl)) rfl ?_
          exact ⟨_, by first | rfl | (simp [errW_none, errW_some] <;> rfl) | (simp [*, errW_none, errW_some] <;> rfl), by first | exact Kd.R_nil _ _ _ _ _ | exact Kd.N_nil _ _ _ _ _ | exact Kd.V_nil _ _ _ _ _ | exact Kd.Q_nil _ _ _ _ _ | exact Kd.S_nil _ _ _ _ _, by repeat (first | (with_reducible first | exact HB.out | apply z2q | apply z3q | apply z4q | refine z8q ?_ GE104.out | refine z8q ?_ GE108.out | refine z8q ?_ GE127.out) | exact HB.out)⟩
         ·rw [if_neg c20] at H
          have c20b0 : decide (t126 < 0) = false := decide_eq_false c20
          clear c20
          by_cases c30 : x109014_2.length < 1099511627776
          ·rw [if_pos c30] at H
           have LMc30 := Aside0.mk c30
           clear c30
           obtain ⟨y128, hy128⟩ : ∃ y_ : List (S70), y_ = (x109014_2 ++ [(⟨(⟨t109, t110, (⟨t111, t112, t113⟩ : S65), (⟨t114, t115, t116, t117⟩ : S47), (⟨t118, t119, t120, t121⟩ : S47), t122⟩ : S67), t123⟩ : S70)]) := ⟨_, rfl⟩
           replace H : (spec_l4Take.l0 k2 l0 t126 a2 (wrap64 (x9_2 + 1)) ((rd_T67 l0 a1).f0) ((rd_T67 l0 a1).f1) ((rd_T67 l0 a1).f2.f0) ((rd_T67 l0 a1).f2.f1) ((rd_T67 l0 a1).f2.f2) ((rd_T67 l0 a1).f3.f0) ((rd_T67 l0 a1).f3.f1) ((rd_T67 l0 a1).f3.f2) ((rd_T67 l0 a1).f3.f3) ((rd_T67 l0 a1).f4.f0) ((rd_T67 l0 a1).f4.f1) ((rd_T67 l0 a1).f4.f2) ((rd_T67 l0 a1).f4.f3) ((rd_T67 l0 a1).f5) y128) = some (r1, r2, r3, r4, r5, r6, r7, r8, r9, r10, r11, r12, r13, r14, r15, r16) := by first | (rw [hy128]; with_reducible exact H) | (have H2_ := (Option.bind_some _ _).symm.trans H; rw [hy128]; with_reducible exact H2_) | (have H2_ := (Option.bind_some _ _).symm.trans H; with_reducible exact H2_) | with_reducible exact H | (rw [hy128]; exact H) | exact H
           have Ny128 := Aside0.mk hy128
           clear hy128
           have H' := Aside0.mk H
           clear H
           have hnb31 := NB108_104.out
           have hnc31 := NB104_108.out
           obtain ⟨hcz32_0, hcz32_1, hcz32_2, hcz32_3, hcz32_4, hcz32_5, hcz32_6, hcz32_7, hcz32_8, hcz32_9, hcz32_10, hcz32_11, hcz32_12, hcz32_13, hcz32_14, hfz32_0, hfz32_1, hfz32_2, hfz32_3, hfz32_4, hfz32_5, hfz32_6, hfz32_7, hfz32_8, hfz32_9, hfz32_10, hfz32_11, hfz32_12, hfz32_13, hfz32_14⟩ := cr15 (w := wr) (g := gb108) BK108.out
           go_wp2_with (first | ((with_reducible refine z14q (f := 70) rfl ?_); refine z20q (some 56) rfl rfl Tryz.func70 (by kernel_rfl) rfl #[.slice (some ad107) l0.length c0, .int .i64 x1_2, .int .i64 (wrap64 (a2 + 1))] rfl (by (try simp only [map_toArray, map_cons, map_nil]); first | done | rfl | (simp only [length_drop, length_take]; rfl)) ?_; (with_reducible refine (ih k2 (by have := HJ3.out; have := HK2.out; omega) _ _ l0 x1_2 (wrap64 (a2 + 1)) t109 t110 t111 t112 t113 t114 t115 t116 t117 t118 t119 t120 t121 t122 t123 t126 _ ?side1 ?side2 A19.out).mono ?_); (case side1 => exact Kd.C_below HR0.out ib); (case side2 => exact HC0.out); rintro e w33 ⟨v124, rfl, ho0, hb⟩; refine ⟨_, rfl, ?_⟩; have n0_ := Aside0.mk (Kd.R_elder' (ro HO_109014.out) (Kd.R_base ho0) hb); have n1_ := Aside0.mk (Kd.R_lower (Kd.R_newB (Kd.R_newB (Kd.R_new' ho0 (Kd.R_lt (ro HO_109014.out))) (g := gb104) (o := .cells #[.int .i64 x105000_2, .string x105001_2, .bool x105002_2, .int .i64 x105003_2, .int .i64 x105004_2, .int .i64 x105005_2, .int .i64 x105006_2, .bool x105007_2, .bool x105008_2, .int .i64 x105009_2, .int .i64 x105010_2, .bool x105011_2, .bool x105012_2, .int .i64 x105013_2, .slice none 0 0] 70 (0, 0)) (cy BK104.out)) (g := gb108) (o := .cells #[.int .i64 ((rd_T67 l0 a1).f0), .string ((rd_T67 l0 a1).f1), .bool ((rd_T67 l0 a1).f2.f0), .int .i64 ((rd_T67 l0 a1).f2.f1), .int .i64 ((rd_T67 l0 a1).f2.f2), .int .i64 ((rd_T67 l0 a1).f3.f0), .int .i64 ((rd_T67 l0 a1).f3.f1), .bool ((rd_T67 l0 a1).f3.f2), .bool ((rd_T67 l0 a1).f3.f3), .int .i64 ((rd_T67 l0 a1).f4.f0), .int .i64 ((rd_T67 l0 a1).f4.f1), .bool ((rd_T67 l0 a1).f4.f2), .bool ((rd_T67 l0 a1).f4.f3), .int .i64 ((rd_T67 l0 a1).f5), u109014] 70 (0, 0)) (cy BK108.out)) (z7q (ibh HB.out))); have n2_ := Aside0.mk (z15q (cy BK104.out) hb); have n3_ := Aside0.mk (z15q (cy BK108.out) hb); have n4_ := Aside0.mk (z6q (ibh HB.out) hb); clear HO_109014; clear BK104; clear BK108; clear HB; have HO_109014 := n0_; have HO125 := n1_; have BK104 := n2_; have BK108 := n3_; have HB := n4_; clear n0_ n1_ n2_ n3_ n4_; (try clear hb); (try clear hb2); (try clear hk); (try clear hi); (try clear ho0)) | ((with_reducible refine z17q (N := 10) rfl ?_); refine z16q ?hg (N := 10) ?hd (cs := #[.int .i64 0, .string (⟨#[]⟩ : ByteArray), .bool false, .int .i64 0, .int .i64 0, .int .i64 0, .int .i64 0, .bool false, .bool false, .int .i64 0, .int .i64 0, .bool false, .bool false, .int .i64 0, .slice none 0 0]) (t := 70) ?hr ?_; (case hd => rfl); (case hg => rfl); (case hr => first | (go_simp; done) | (go_simp; rfl)); intro gb127 hg w34 hbox hb; have n0_ := Aside0.mk (Kd.R_below (Kd.R_elderB (ro HO_109014.out) gb127 (Nat.le_of_eq hg.symm)) hb); have n1_ := Aside0.mk (Kd.R_below (Kd.R_elderB (ro HO125.out) gb127 (Nat.le_of_eq hg.symm)) hb); have n2_ := Aside0.mk (z15q (cy BK104.out) hb); have n3_ := Aside0.mk (z15q (cy BK108.out) hb); have n4_ := Aside0.mk (z6q (ibh HB.out) hb); have n5_ := Aside0.mk (hbox); have n6_ := Aside0.mk ((by rw [hg]; exact (z7q (ibh HB.out)) : w.heap.size ≤ gb127)); have n7_ := Aside0.mk ((by rw [hg]; exact (z7q (ibh HB.out)) : w.heap.size ≤ gb127)); have n8_ := Aside0.mk ((by rw [hg]; exact Nat.ne_of_lt (z21q (cy BK104.out)) : gb104 ≠ gb127)); have n9_ := Aside0.mk ((by rw [hg]; exact Nat.ne_of_gt (z21q (cy BK104.out)) : gb127 ≠ gb104)); have n10_ := Aside0.mk ((by rw [hg]; exact Nat.ne_of_lt (z21q (cy BK108.out)) : gb108 ≠ gb127)); have n11_ := Aside0.mk ((by rw [hg]; exact Nat.ne_of_gt (z21q (cy BK108.out)) : gb127 ≠ gb108)); clear HO_109014; clear HO125; clear BK104; clear BK108; clear HB; have HO_109014 := n0_; have HO125 := n1_; have BK104 := n2_; have BK108 := n3_; have HB := n4_; have BK127 := n5_; have GW127 := n6_; have GE127 := n7_; have NB104_127 := n8_; have NB127_104 := n9_; have NB108_127 := n10_; have NB127_108 := n11_; clear n0_ n1_ n2_ n3_ n4_ n5_ n6_ n7_ n8_ n9_ n10_ n11_; clear hb hbox hg; have hnb35 := NB127_104.out; have hnc35 := NB104_127.out; have hnb36 := NB127_108.out; have hnc36 := NB108_127.out; obtain ⟨hcz37_0, hcz37_1, hcz37_2, hcz37_3, hcz37_4, hcz37_5, hcz37_6, hcz37_7, hcz37_8, hcz37_9, hcz37_10, hcz37_11, hcz37_12, hcz37_13, hcz37_14, hfz37_0, hfz37_1, hfz37_2, hfz37_3, hfz37_4, hfz37_5, hfz37_6, hfz37_7, hfz37_8, hfz37_9, hfz37_10, hfz37_11, hfz37_12, hfz37_13, hfz37_14⟩ := cr15 (w := w34) (g := gb127) BK127.out; obtain ⟨Ao38, co38, eo38⟩ := Kd.R_slice HO125.out; subst eo38) | ((with_reducible refine gate_store (t := 70) (p := 10) rfl ?_); refine store_event (t := 70) (p := 10) (v := ?vo_w39) (w1 := (((((((((((((((w34.setCell ⟨gb127, 0, none⟩ (.int .i64 t109)).setCell ⟨gb127, 1, none⟩ (.string t110)).setCell ⟨gb127, 2, none⟩ (.bool t111)).setCell ⟨gb127, 3, none⟩ (.int .i64 t112)).setCell ⟨gb127, 4, none⟩ (.int .i64 t113)).setCell ⟨gb127, 5, none⟩ (.int .i64 t114)).setCell ⟨gb127, 6, none⟩ (.int .i64 t115)).setCell ⟨gb127, 7, none⟩ (.bool t116)).setCell ⟨gb127, 8, none⟩ (.bool t117)).setCell ⟨gb127, 9, none⟩ (.int .i64 t118)).setCell ⟨gb127, 10, none⟩ (.int .i64 t119)).setCell ⟨gb127, 11, none⟩ (.bool t120)).setCell ⟨gb127, 12, none⟩ (.bool t121)).setCell ⟨gb127, 13, none⟩ (.int .i64 t122)).setCell ⟨gb127, 14, none⟩ (.slice Ao38 t123.length co38))) ?hg ?ho ?hn ?hr ?_; (case ho => rfl); (case hg => rfl); (case hn => rfl); (case hr => first | (go_simp; done) | (go_simp; rfl)); intro w39 hw; have n0_ : Aside0 (Kd.R k70 70 w39 w.heap.size (fun k_ => some k_ ≠ (.slice Ao38 t123.length co38 : Value).ownBlock ∧ k_ ≠ gb104 ∧ k_ ≠ gb108 ∧ k_ ≠ gb127) u109014 x109014_2) := ⟨(by rw [hw]; exact (by (with_reducible repeat (first | apply Kd.R_alloc | apply Kd.R_drewN | apply Kd.R_drew)); exact Kd.R_mono (Kd.R_far (p := ⟨gb127, 14, none⟩) (Kd.R_far (p := ⟨gb127, 13, none⟩) (Kd.R_far (p := ⟨gb127, 12, none⟩) (Kd.R_far (p := ⟨gb127, 11, none⟩) (Kd.R_far (p := ⟨gb127, 10, none⟩) (Kd.R_far (p := ⟨gb127, 9, none⟩) (Kd.R_far (p := ⟨gb127, 8, none⟩) (Kd.R_far (p := ⟨gb127, 7, none⟩) (Kd.R_far (p := ⟨gb127, 6, none⟩) (Kd.R_far (p := ⟨gb127, 5, none⟩) (Kd.R_far (p := ⟨gb127, 4, none⟩) (Kd.R_far (p := ⟨gb127, 3, none⟩) (Kd.R_far (p := ⟨gb127, 2, none⟩) (Kd.R_far (p := ⟨gb127, 1, none⟩) (Kd.R_far (p := ⟨gb127, 0, none⟩) (Kd.R_mono HO_109014.out (fun k_ hk => (⟨hk, hk.2⟩ : _ ∧ k_ ≠ gb127))) (fun _ hk => hk.2) (.int .i64 t109)) (fun _ hk => hk.2) (.string t110)) (fun _ hk => hk.2) (.bool t111)) (fun _ hk => hk.2) (.int .i64 t112)) (fun _ hk => hk.2) (.int .i64 t113)) (fun _ hk => hk.2) (.int .i64 t114)) (fun _ hk => hk.2) (.int .i64 t115)) (fun _ hk => hk.2) (.bool t116)) (fun _ hk => hk.2) (.bool t117)) (fun _ hk => hk.2) (.int .i64 t118)) (fun _ hk => hk.2) (.int .i64 t119)) (fun _ hk => hk.2) (.bool t120)) (fun _ hk => hk.2) (.bool t121)) (fun _ hk => hk.2) (.int .i64 t122)) (fun _ hk => hk.2) (.slice Ao38 t123.length co38)) (fun _ hk => ⟨hk.1.1.2, ⟨hk.1.1.1.1, ⟨hk.1.1.1.2, hk.1.2⟩⟩⟩)))⟩; have n1_ : Aside0 (Kd.R k70 70 w39 w.heap.size (fun k_ => some k_ ≠ (u109014 : Value).ownBlock ∧ k_ ≠ gb104 ∧ k_ ≠ gb108 ∧ k_ ≠ gb127) (.slice Ao38 t123.length co38) t123) := ⟨(by rw [hw]; exact (by (with_reducible repeat (first | apply Kd.R_alloc | apply Kd.R_drewN | apply Kd.R_drew)); exact Kd.R_mono (Kd.R_far (p := ⟨gb127, 14, none⟩) (Kd.R_far (p := ⟨gb127, 13, none⟩) (Kd.R_far (p := ⟨gb127, 12, none⟩) (Kd.R_far (p := ⟨gb127, 11, none⟩) (Kd.R_far (p := ⟨gb127, 10, none⟩) (Kd.R_far (p := ⟨gb127, 9, none⟩) (Kd.R_far (p := ⟨gb127, 8, none⟩) (Kd.R_far (p := ⟨gb127, 7, none⟩) (Kd.R_far (p := ⟨gb127, 6, none⟩) (Kd.R_far (p := ⟨gb127, 5, none⟩) (Kd.R_far (p := ⟨gb127, 4, none⟩) (Kd.R_far (p := ⟨gb127, 3, none⟩) (Kd.R_far (p := ⟨gb127, 2, none⟩) (Kd.R_far (p := ⟨gb127, 1, none⟩) (Kd.R_far (p := ⟨gb127, 0, none⟩) (Kd.R_mono HO125.out (fun k_ hk => (⟨hk, hk.2⟩ : _ ∧ k_ ≠ gb127))) (fun _ hk => hk.2) (.int .i64 t109)) (fun _ hk => hk.2) (.string t110)) (fun _ hk => hk.2) (.bool t111)) (fun _ hk => hk.2) (.int .i64 t112)) (fun _ hk => hk.2) (.int .i64 t113)) (fun _ hk => hk.2) (.int .i64 t114)) (fun _ hk => hk.2) (.int .i64 t115)) (fun _ hk => hk.2) (.bool t116)) (fun _ hk => hk.2) (.bool t117)) (fun _ hk => hk.2) (.int .i64 t118)) (fun _ hk => hk.2) (.int .i64 t119)) (fun _ hk => hk.2) (.bool t120)) (fun _ hk => hk.2) (.bool t121)) (fun _ hk => hk.2) (.int .i64 t122)) (fun _ hk => hk.2) (.slice Ao38 t123.length co38)) (fun _ hk => ⟨hk.1.1.1.1.2, ⟨hk.1.1.1.2, ⟨hk.1.1.2, hk.1.2⟩⟩⟩)))⟩; have n2_ : Aside0 (w39.heap[gb104]? = some (.cells #[.int .i64 x105000_2, .string x105001_2, .bool x105002_2, .int .i64 x105003_2, .int .i64 x105004_2, .int .i64 x105005_2, .int .i64 x105006_2, .bool x105007_2, .bool x105008_2, .int .i64 x105009_2, .int .i64 x105010_2, .bool x105011_2, .bool x105012_2, .int .i64 x105013_2, .slice none 0 0] 70 (0, 0))) := ⟨(by rw [hw]; exact (cy BK104.out))⟩; have n3_ : Aside0 (w39.heap[gb108]? = some (.cells #[.int .i64 ((rd_T67 l0 a1).f0), .string ((rd_T67 l0 a1).f1), .bool ((rd_T67 l0 a1).f2.f0), .int .i64 ((rd_T67 l0 a1).f2.f1), .int .i64 ((rd_T67 l0 a1).f2.f2), .int .i64 ((rd_T67 l0 a1).f3.f0), .int .i64 ((rd_T67 l0 a1).f3.f1), .bool ((rd_T67 l0 a1).f3.f2), .bool ((rd_T67 l0 a1).f3.f3), .int .i64 ((rd_T67 l0 a1).f4.f0), .int .i64 ((rd_T67 l0 a1).f4.f1), .bool ((rd_T67 l0 a1).f4.f2), .bool ((rd_T67 l0 a1).f4.f3), .int .i64 ((rd_T67 l0 a1).f5), u109014] 70 (0, 0))) := ⟨(by rw [hw]; exact (cy BK108.out))⟩; have n4_ : Aside0 (w39.heap[gb127]? = some (.cells #[.int .i64 t109, .string t110, .bool t111, .int .i64 t112, .int .i64 t113, .int .i64 t114, .int .i64 t115, .bool t116, .bool t117, .int .i64 t118, .int .i64 t119, .bool t120, .bool t121, .int .i64 t122, .slice Ao38 t123.length co38] 70 (0, 0))) := ⟨(by rw [hw]; exact (by refine cz ?_; refine z9q (cs := #[.int .i64 t109, .string t110, .bool t111, .int .i64 t112, .int .i64 t113, .int .i64 t114, .int .i64 t115, .bool t116, .bool t117, .int .i64 t118, .int .i64 t119, .bool t120, .bool t121, .int .i64 t122, .slice none 0 0]) ?_ 14 _ rfl; refine cz ?_; refine z9q (cs := #[.int .i64 t109, .string t110, .bool t111, .int .i64 t112, .int .i64 t113, .int .i64 t114, .int .i64 t115, .bool t116, .bool t117, .int .i64 t118, .int .i64 t119, .bool t120, .bool t121, .int .i64 0, .slice none 0 0]) ?_ 13 _ rfl; refine cz ?_; refine z9q (cs := #[.int .i64 t109, .string t110, .bool t111, .int .i64 t112, .int .i64 t113, .int .i64 t114, .int .i64 t115, .bool t116, .bool t117, .int .i64 t118, .int .i64 t119, .bool t120, .bool false, .int .i64 0, .slice none 0 0]) ?_ 12 _ rfl; refine cz ?_; refine z9q (cs := #[.int .i64 t109, .string t110, .bool t111, .int .i64 t112, .int .i64 t113, .int .i64 t114, .int .i64 t115, .bool t116, .bool t117, .int .i64 t118, .int .i64 t119, .bool false, .bool false, .int .i64 0, .slice none 0 0]) ?_ 11 _ rfl; refine cz ?_; refine z9q (cs := #[.int .i64 t109, .string t110, .bool t111, .int .i64 t112, .int .i64 t113, .int .i64 t114, .int .i64 t115, .bool t116, .bool t117, .int .i64 t118, .int .i64 0, .bool false, .bool false, .int .i64 0, .slice none 0 0]) ?_ 10 _ rfl; refine cz ?_; refine z9q (cs := #[.int .i64 t109, .string t110, .bool t111, .int .i64 t112, .int .i64 t113, .int .i64 t114, .int .i64 t115, .bool t116, .bool t117, .int .i64 0, .int .i64 0, .bool false, .bool false, .int .i64 0, .slice none 0 0]) ?_ 9 _ rfl; refine cz ?_; refine z9q (cs := #[.int .i64 t109, .string t110, .bool t111, .int .i64 t112, .int .i64 t113, .int .i64 t114, .int .i64 t115, .bool t116, .bool false, .int .i64 0, .int .i64 0, .bool false, .bool false, .int .i64 0, .slice none 0 0]) ?_ 8 _ rfl; refine cz ?_; refine z9q (cs := #[.int .i64 t109, .string t110, .bool t111, .int .i64 t112, .int .i64 t113, .int .i64 t114, .int .i64 t115, .bool false, .bool false, .int .i64 0, .int .i64 0, .bool false, .bool false, .int .i64 0, .slice none 0 0]) ?_ 7 _ rfl; refine cz ?_; refine z9q (cs := #[.int .i64 t109, .string t110, .bool t111, .int .i64 t112, .int .i64 t113, .int .i64 t114, .int .i64 0, .bool false, .bool false, .int .i64 0, .int .i64 0, .bool false, .bool false, .int .i64 0, .slice none 0 0]) ?_ 6 _ rfl; refine cz ?_; refine z9q (cs := #[.int .i64 t109, .string t110, .bool t111, .int .i64 t112, .int .i64 t113, .int .i64 0, .int .i64 0, .bool false, .bool false, .int .i64 0, .int .i64 0, .bool false, .bool false, .int .i64 0, .slice none 0 0]) ?_ 5 _ rfl; refine cz ?_; refine z9q (cs := #[.int .i64 t109, .string t110, .bool t111, .int .i64 t112, .int .i64 0, .int .i64 0, .int .i64 0, .bool false, .bool false, .int .i64 0, .int .i64 0, .bool false, .bool false, .int .i64 0, .slice none 0 0]) ?_ 4 _ rfl; refine cz ?_; refine z9q (cs := #[.int .i64 t109, .string t110, .bool t111, .int .i64 0, .int .i64 0, .int .i64 0, .int .i64 0, .bool false, .bool false, .int .i64 0, .int .i64 0, .bool false, .bool false, .int .i64 0, .slice none 0 0]) ?_ 3 _ rfl; refine cz ?_; refine z9q (cs := #[.int .i64 t109, .string t110, .bool false, .int .i64 0, .int .i64 0, .int .i64 0, .int .i64 0, .bool false, .bool false, .int .i64 0, .int .i64 0, .bool false, .bool false, .int .i64 0, .slice none 0 0]) ?_ 2 _ rfl; refine cz ?_; refine z9q (cs := #[.int .i64 t109, .string (⟨#[]⟩ : ByteArray), .bool false, .int .i64 0, .int .i64 0, .int .i64 0, .int .i64 0, .bool false, .bool false, .int .i64 0, .int .i64 0, .bool false, .bool false, .int .i64 0, .slice none 0 0]) ?_ 1 _ rfl; refine cz ?_; refine z9q (cs := #[.int .i64 0, .string (⟨#[]⟩ : ByteArray), .bool false, .int .i64 0, .int .i64 0, .int .i64 0, .int .i64 0, .bool false, .bool false, .int .i64 0, .int .i64 0, .bool false, .bool false, .int .i64 0, .slice none 0 0]) ?_ 0 _ rfl; exact cy BK127.out))⟩; have n5_ : Aside0 (Below w.heap.size w w39) := ⟨(by rw [hw]; exact (ibh HB.out))⟩; clear hw; clear HO_109014; clear HO125; clear BK104; clear BK108; clear BK127; clear HB; have HO_109014 := n0_; have HO125 := n1_; have BK104 := n2_; have BK108 := n3_; have BK127 := n4_; have HB := n5_; clear n0_ n1_ n2_ n3_ n4_ n5_; obtain ⟨hcz40_0, hcz40_1, hcz40_2, hcz40_3, hcz40_4, hcz40_5, hcz40_6, hcz40_7, hcz40_8, hcz40_9, hcz40_10, hcz40_11, hcz40_12, hcz40_13, hcz40_14, hfz40_0, hfz40_1, hfz40_2, hfz40_3, hfz40_4, hfz40_5, hfz40_6, hfz40_7, hfz40_8, hfz40_9, hfz40_10, hfz40_11, hfz40_12, hfz40_13, hfz40_14⟩ := cr15 (w := w39) (g := gb108) BK108.out; obtain ⟨hcz41_0, hcz41_1, hcz41_2, hcz41_3, hcz41_4, hcz41_5, hcz41_6, hcz41_7, hcz41_8, hcz41_9, hcz41_10, hcz41_11, hcz41_12, hcz41_13, hcz41_14, hfz41_0, hfz41_1, hfz41_2, hfz41_3, hfz41_4, hfz41_5, hfz41_6, hfz41_7, hfz41_8, hfz41_9, hfz41_10, hfz41_11, hfz41_12, hfz41_13, hfz41_14⟩ := cr15 (w := w39) (g := gb127) BK127.out) | ((with_reducible refine gate_builtin (b := .append) (xs := #[.tmp 63, .tmp 65]) rfl ?_); at_builtin; refine Kd.R_append k70 (w0 := w) w.heap.size rfl (.tmp 63) (.tmp 65) 68 70 (.agg #[(.int .i64 0), (.string ⟨#[]⟩), (.bool false), (.int .i64 0), (.int .i64 0), (.int .i64 0), (.int .i64 0), (.bool false), (.bool false), (.int .i64 0), (.int .i64 0), (.bool false), (.bool false), (.int .i64 0), (.slice none 0 0)]) 128 rfl Tryz.underlying68 info70 rfl (by decide) (by omega) u109014 x109014_2 (⟨(⟨t109, t110, (⟨t111, t112, t113⟩ : S65), (⟨t114, t115, t116, t117⟩ : S47), (⟨t118, t119, t120, t121⟩ : S47), t122⟩ : S67), t123⟩ : S70) [.int .i64 t109, .string t110, .bool t111, .int .i64 t112, .int .i64 t113, .int .i64 t114, .int .i64 t115, .bool t116, .bool t117, .int .i64 t118, .int .i64 t119, .bool t120, .bool t121, .int .i64 t122, .slice Ao38 t123.length co38] (fun k_ => k_ ≠ gb104 ∧ k_ ≠ gb108 ∧ k_ ≠ gb127) (fun k_ => ((fun k_ => k_ ≠ gb104 ∧ k_ ≠ gb108 ∧ k_ ≠ gb127)) k_ ∧ some k_ ≠ (u109014 : Value).ownBlock) rfl rfl ?aP (fun _ hk => hk) ?aF ?aO ?aB ?aS ?aL ?_; (case aP => exact k70_mkM _ _ _ (⟨(⟨t109, t110, (⟨t111, t112, t113⟩ : S65), (⟨t114, t115, t116, t117⟩ : S47), (⟨t118, t119, t120, t121⟩ : S47), t122⟩ : S67), t123⟩ : S70) (Kd.R_mono (HO125.out) (fun k_ hk => ⟨⟨hk.2.1, ⟨hk.2.2.1, hk.2.2.2⟩⟩, hk.1⟩))); (case aB => exact (ibh HB.out)); (case aF => exact (fun k_ hk => ⟨Kd.freshB (g := gb104) (o := .cells #[.int .i64 x105000_2, .string x105001_2, .bool x105002_2, .int .i64 x105003_2, .int .i64 x105004_2, .int .i64 x105005_2, .int .i64 x105006_2, .bool x105007_2, .bool x105008_2, .int .i64 x105009_2, .int .i64 x105010_2, .bool x105011_2, .bool x105012_2, .int .i64 x105013_2, .slice none 0 0] 70 (0, 0)) (cy BK104.out) k_ hk, Kd.freshB (g := gb108) (o := .cells #[.int .i64 ((rd_T67 l0 a1).f0), .string ((rd_T67 l0 a1).f1), .bool ((rd_T67 l0 a1).f2.f0), .int .i64 ((rd_T67 l0 a1).f2.f1), .int .i64 ((rd_T67 l0 a1).f2.f2), .int .i64 ((rd_T67 l0 a1).f3.f0), .int .i64 ((rd_T67 l0 a1).f3.f1), .bool ((rd_T67 l0 a1).f3.f2), .bool ((rd_T67 l0 a1).f3.f3), .int .i64 ((rd_T67 l0 a1).f4.f0), .int .i64 ((rd_T67 l0 a1).f4.f1), .bool ((rd_T67 l0 a1).f4.f2), .bool ((rd_T67 l0 a1).f4.f3), .int .i64 ((rd_T67 l0 a1).f5), u109014] 70 (0, 0)) (cy BK108.out) k_ hk, Kd.freshB (g := gb127) (o := .cells #[.int .i64 t109, .string t110, .bool t111, .int .i64 t112, .int .i64 t113, .int .i64 t114, .int .i64 t115, .bool t116, .bool t117, .int .i64 t118, .int .i64 t119, .bool t120, .bool t121, .int .i64 t122, .slice Ao38 t123.length co38] 70 (0, 0)) (cy BK127.out) k_ hk⟩)); (case aO => exact (by (with_reducible repeat (first | apply Kd.R_alloc | apply Kd.R_drewN | apply Kd.R_drew)); exact Kd.R_mono HO_109014.out (fun _ hk => ⟨hk.2.1, ⟨hk.2.2.1, hk.2.2.2⟩⟩))); (case aS => exact (z7q (ibh HB.out))); (case aL => have := LMc30.out; omega); intro v129 w42 ho hb hg hat; rw [← Ny128.out] at ho; have n0_ := Aside0.mk (blk_grown (g := gb104) (o := .cells #[.int .i64 x105000_2, .string x105001_2, .bool x105002_2, .int .i64 x105003_2, .int .i64 x105004_2, .int .i64 x105005_2, .int .i64 x105006_2, .bool x105007_2, .bool x105008_2, .int .i64 x105009_2, .int .i64 x105010_2, .bool x105011_2, .bool x105012_2, .int .i64 x105013_2, .slice none 0 0] 70 (0, 0)) (cy BK104.out) hg (Kd.R_away HO_109014.out (fun _ hk => hk.2.1))); have n1_ := Aside0.mk (blk_grown (g := gb108) (o := .cells #[.int .i64 ((rd_T67 l0 a1).f0), .string ((rd_T67 l0 a1).f1), .bool ((rd_T67 l0 a1).f2.f0), .int .i64 ((rd_T67 l0 a1).f2.f1), .int .i64 ((rd_T67 l0 a1).f2.f2), .int .i64 ((rd_T67 l0 a1).f3.f0), .int .i64 ((rd_T67 l0 a1).f3.f1), .bool ((rd_T67 l0 a1).f3.f2), .bool ((rd_T67 l0 a1).f3.f3), .int .i64 ((rd_T67 l0 a1).f4.f0), .int .i64 ((rd_T67 l0 a1).f4.f1), .bool ((rd_T67 l0 a1).f4.f2), .bool ((rd_T67 l0 a1).f4.f3), .int .i64 ((rd_T67 l0 a1).f5), u109014] 70 (0, 0)) (cy BK108.out) hg (Kd.R_away HO_109014.out (fun _ hk => hk.2.2.1))); have n2_ := Aside0.mk (blk_grown (g := gb127) (o := .cells #[.int .i64 t109, .string t110, .bool t111, .int .i64 t112, .int .i64 t113, .int .i64 t114, .int .i64 t115, .bool t116, .bool t117, .int .i64 t118, .int .i64 t119, .bool t120, .bool t121, .int .i64 t122, .slice Ao38 t123.length co38] 70 (0, 0)) (cy BK127.out) hg (Kd.R_away HO_109014.out (fun _ hk => hk.2.2.2))); have n3_ := Aside0.mk (hb); have n4_ := Aside0.mk (ho); clear BK104; clear BK108; clear BK127; clear HB; clear HO_109014; clear HO125; have BK104 := n0_; have BK108 := n1_; have BK127 := n2_; have HB := n3_; have HO130 := n4_; clear n0_ n1_ n2_ n3_ n4_; clear ho hb hg hat; obtain ⟨Ao43, co43, eo43⟩ := Kd.R_slice HO130.out; subst eo43; obtain ⟨hcz44_0, hcz44_1, hcz44_2, hcz44_3, hcz44_4, hcz44_5, hcz44_6, hcz44_7, hcz44_8, hcz44_9, hcz44_10, hcz44_11, hcz44_12, hcz44_13, hcz44_14, hfz44_0, hfz44_1, hfz44_2, hfz44_3, hfz44_4, hfz44_5, hfz44_6, hfz44_7, hfz44_8, hfz44_9, hfz44_10, hfz44_11, hfz44_12, hfz44_13, hfz44_14⟩ := cr15 (w := w42) (g := gb108) BK108.out))
           go_roundg k2
           case measure => have := HJ3.out; have := HK2.out; omega
           case rel => exact ⟨(t126), (wrap64 (x9_2 + 1)), (x105000_2), (x105001_2), (x105002_2), (x105003_2), (x105004_2), (x105005_2), (x105006_2), (x105007_2), (x105008_2), (x105009_2), (x105010_2), (x105011_2), (x105012_2), (x105013_2), (y128), (.slice Ao43 y128.length co43), (by first | rfl | (simp; done) | (simp [*]; done) | (simp; unfold wrap64; omega)), (by first | rfl | (simp; done) | (simp [*]; done) | (simp; unfold wrap64; omega)), H', ⟨by have := HJ3.out; have := HK2.out; omega⟩, ⟨by (with_reducible repeat (first | apply Kd.R_alloc | apply Kd.R_drewN | apply Kd.R_drew)); exact Kd.R_mono (Kd.R_far (p := ⟨gb108, 14, none⟩) (Kd.R_mono HO130.out (fun k_ hk => (⟨hk, hk.2.1⟩ : _ ∧ k_ ≠ gb108))) (fun _ hk => hk.2) (.slice Ao43 y128.length co43)) (fun _ hk => ⟨hk.1.1, hk.1.2.1⟩)⟩, ⟨by (with_reducible repeat (first | refine z11q ?_ _ | refine z13q ?_ | refine z10q ?_ _)); refine z18q ?_ NB104_108.out _; (with_reducible repeat (first | refine z11q ?_ _ | refine z13q ?_ | refine z10q ?_ _)); exact BK104.out⟩, ⟨by refine cz ?_; refine z9q (cs := #[.int .i64 ((rd_T67 l0 a1).f0), .string ((rd_T67 l0 a1).f1), .bool ((rd_T67 l0 a1).f2.f0), .int .i64 ((rd_T67 l0 a1).f2.f1), .int .i64 ((rd_T67 l0 a1).f2.f2), .int .i64 ((rd_T67 l0 a1).f3.f0), .int .i64 ((rd_T67 l0 a1).f3.f1), .bool ((rd_T67 l0 a1).f3.f2), .bool ((rd_T67 l0 a1).f3.f3), .int .i64 ((rd_T67 l0 a1).f4.f0), .int .i64 ((rd_T67 l0 a1).f4.f1), .bool ((rd_T67 l0 a1).f4.f2), .bool ((rd_T67 l0 a1).f4.f3), .int .i64 ((rd_T67 l0 a1).f5), u109014]) ?_ 14 _ rfl; (with_reducible repeat (first | refine z11q ?_ _ | refine z13q ?_ | refine z10q ?_ _)); exact BK108.out⟩, ⟨by repeat (first | (with_reducible first | exact HB.out | apply z2q | apply z3q | apply z4q | refine z8q ?_ GE104.out | refine z8q ?_ GE108.out | refine z8q ?_ GE127.out) | exact HB.out)⟩⟩
          ·rw [if_neg c30] at H
           exact absurd H (by simp)
        ·rw [if_neg c18] at H
         have c18b0 : decide (x9_2 < ((rd_T67 l0 a1).f5)) = false := decide_eq_false c18
         clear c18
         simp only [Option.some.injEq, Prod.mk.injEq] at H
         obtain ⟨rfl, rfl, rfl, rfl, rfl, rfl, rfl, rfl, rfl, rfl, rfl, rfl, rfl, rfl, rfl, rfl⟩ := H
         have hnb45 := NB108_104.out
         have hnc45 := NB104_108.out
         obtain ⟨hcz46_0, hcz46_1, hcz46_2, hcz46_3, hcz46_4, hcz46_5, hcz46_6, hcz46_7, hcz46_8, hcz46_9, hcz46_10, hcz46_11, hcz46_12, hcz46_13, hcz46_14, hfz46_0, hfz46_1, hfz46_2, hfz46_3, hfz46_4, hfz46_5, hfz46_6, hfz46_7, hfz46_8, hfz46_9, hfz46_10, hfz46_11, hfz46_12, hfz46_13, hfz46_14⟩ := cr15 (w := wr) (g := gb108) BK108.out
         obtain ⟨hcz47_0, hcz47_1, hcz47_2, hcz47_3, hcz47_4, hcz47_5, hcz47_6, hcz47_7, hcz47_8, hcz47_9, hcz47_10, hcz47_11, hcz47_12, hcz47_13, hcz47_14, hfz47_0, hfz47_1, hfz47_2, hfz47_3, hfz47_4, hfz47_5, hfz47_6, hfz47_7, hfz47_8, hfz47_9, hfz47_10, hfz47_11, hfz47_12, hfz47_13, hfz47_14⟩ := cr15 (w := wr) (g := gb104) BK104.out
         obtain ⟨Ao48, co48, eo48⟩ := Kd.R_slice HO_109014.out
         subst eo48
         go_wp2
         refine bodyPost_ret (results_ct rfl _ _ gb104 70 #[.int .i64 ((rd_T67 l0 a1).f0), .string ((rd_T67 l0 a1).f1), .bool ((rd_T67 l0 a1).f2.f0), .int .i64 ((rd_T67 l0 a1).f2.f1), .int .i64 ((rd_T67 l0 a1).f2.f2), .int .i64 ((rd_T67 l0 a1).f3.f0), .int .i64 ((rd_T67 l0 a1).f3.f1), .bool ((rd_T67 l0 a1).f3.f2), .bool ((rd_T67 l0 a1).f3.f3), .int .i64 ((rd_T67 l0 a1).f4.f0), .int .i64 ((rd_T67 l0 a1).f4.f1), .bool ((rd_T67 l0 a1).f4.f2), .bool ((rd_T67 l0 a1).f4.f3), .int .i64 ((rd_T67 l0 a1).f5), .slice Ao48 x109014_2.length co48] (0, 0) _ rfl (by refine cz ?_; refine z9q (cs := #[.int .i64 ((rd_T67 l0 a1).f0), .string ((rd_T67 l0 a1).f1), .bool ((rd_T67 l0 a1).f2.f0), .int .i64 ((rd_T67 l0 a1).f2.f1), .int .i64 ((rd_T67 l0 a1).f2.f2), .int .i64 ((rd_T67 l0 a1).f3.f0), .int .i64 ((rd_T67 l0 a1).f3.f1), .bool ((rd_T67 l0 a1).f3.f2), .bool ((rd_T67 l0 a1).f3.f3), .int .i64 ((rd_T67 l0 a1).f4.f0), .int .i64 ((rd_T67 l0 a1).f4.f1), .bool ((rd_T67 l0 a1).f4.f2), .bool ((rd_T67 l0 a1).f4.f3), .int .i64 ((rd_T67 l0 a1).f5), .slice none 0 0]) ?_ 14 _ rfl; refine cz ?_; refine z9q (cs := #[.int .i64 ((rd_T67 l0 a1).f0), .string ((rd_T67 l0 a1).f1), .bool ((rd_T67 l0 a1).f2.f0), .int .i64 ((rd_T67 l0 a1).f2.f1), .int .i64 ((rd_T67 l0 a1).f2.f2), .int .i64 ((rd_T67 l0 a1).f3.f0), .int .i64 ((rd_T67 l0 a1).f3.f1), .bool ((rd_T67 l0 a1).f3.f2), .bool ((rd_T67 l0 a1).f3.f3), .int .i64 ((rd_T67 l0 a1).f4.f0), .int .i64 ((rd_T67 l0 a1).f4.f1), .bool ((rd_T67 l0 a1).f4.f2), .bool ((rd_T67 l0 a1).f4.f3), .int .i64 x105013_2, .slice none 0 0]) ?_ 13 _ rfl; refine cz ?_; refine z9q (cs := #[.int .i64 ((rd_T67 l0 a1).f0), .string ((rd_T67 l0 a1).f1), .bool ((rd_T67 l0 a1).f2.f0), .int .i64 ((rd_T67 l0 a1).f2.f1), .int .i64 ((rd_T67 l0 a1).f2.f2), .int .i64 ((rd_T67 l0 a1).f3.f0), .int .i64 ((rd_T67 l0 a1).f3.f1), .bool ((rd_T67 l0 a1).f3.f2), .bool ((rd_T67 l0 a1).f3.f3), .int .i64 ((rd_T67 l0 a1).f4.f0), .int .i64 ((rd_T67 l0 a1).f4.f1), .bool ((rd_T67 l0 a1).f4.f2), .bool x105012_2, .int .i64 x105013_2, .slice none 0 0]) ?_ 12 _ rfl; refine cz ?_; refine z9q (cs := #[.int .i64 ((rd_T67 l0 a1).f0), .string ((rd_T67 l0 a1).f1), .bool ((rd_T67 l0 a1).f2.f0), .int .i64 ((rd_T67 l0 a1).f2.f1), .int .i64 ((rd_T67 l0 a1).f2.f2), .int .i64 ((rd_T67 l0 a1).f3.f0), .int .i64 ((rd_T67 l0 a1).f3.f1), .bool ((rd_T67 l0 a1).f3.f2), .bool ((rd_T67 l0 a1).f3.f3), .int .i64 ((rd_T67 l0 a1).f4.f0), .int .i64 ((rd_T67 l0 a1).f4.f1), .bool x105011_2, .bool x105012_2, .int .i64 x105013_2, .slice none 0 0]) ?_ 11 _ rfl; refine cz ?_; refine z9q (cs := #[.int .i64 ((rd_T67 l0 a1).f0), .string ((rd_T67 l0 a1).f1), .bool ((rd_T67 l0 a1).f2.f0), .int .i64 ((rd_T67 l0 a1).f2.f1), .int .i64 ((rd_T67 l0 a1).f2.f2), .int .i64 ((rd_T67 l0 a1).f3.f0), .int .i64 ((rd_T67 l0 a1).f3.f1), .bool ((rd_T67 l0 a1).f3.f2), .bool ((rd_T67 l0 a1).f3.f3), .int .i64 ((rd_T67 l0 a1).f4.f0), .int .i64 x105010_2, .bool x105011_2, .bool x105012_2, .int .i64 x105013_2, .slice none 0 0]) ?_ 10 _ rfl; refine cz ?_; refine z9q (cs := #[.int .i64 ((rd_T67 l0 a1).f0), .string ((rd_T67 l0 a1).f1), .bool ((rd_T67 l0 a1).f2.f0), .int .i64 ((rd_T67 l0 a1).f2.f1), .int .i64 ((rd_T67 l0 a1).f2.f2), .int .i64 ((rd_T67 l0 a1).f3.f0), .int .i64 ((rd_T67 l0 a1).f3.f1), .bool ((rd_T67 l0 a1).f3.f2), .bool ((rd_T67 l0 a1).f3.f3), .int .i64 x105009_2, .int .i64 x105010_2, .bool x105011_2, .bool x105012_2, .int .i64 x105013_2, .slice none 0 0]) ?_ 9 _ rfl; refine cz ?_; refine z9q (cs := #[.int .i64 ((rd_T67 l0 a1).f0), .string ((rd_T67 l0 a1).f1), .bool ((rd_T67 l0 a1).f2.f0), .int .i64 ((rd_T67 l0 a1).f2.f1), .int .i64 ((rd_T67 l0 a1).f2.f2), .int .i64 ((rd_T67 l0 a1).f3.f0), .int .i64 ((rd_T67 l0 a1).f3.f1), .bool ((rd_T67 l0 a1).f3.f2), .bool x105008_2, .int .i64 x105009_2, .int .i64 x105010_2, .bool x105011_2, .bool x105012_2, .int .i64 x105013_2, .slice none 0 0]) ?_ 8 _ rfl; refine cz ?_; refine z9q (cs := #[.int .i64 ((rd_T67 l0 a1).f0), .string ((rd_T67 l0 a1).f1), .bool ((rd_T67 l0 a1).f2.f0), .int .i64 ((rd_T67 l0 a1).f2.f1), .int .i64 ((rd_T67 l0 a1).f2.f2), .int .i64 ((rd_T67 l0 a1).f3.f0), .int .i64 ((rd_T67 l0 a1).f3.f1), .bool x105007_2, .bool x105008_2, .int .i64 x105009_2, .int .i64 x105010_2, .bool x105011_2, .bool x105012_2, .int .i64 x105013_2, .slice none 0 0]) ?_ 7 _ rfl; refine cz ?_; refine z9q (cs := #[.int .i64 ((rd_T67 l0 a1).f0), .string ((rd_T67 l0 a1).f1), .bool ((rd_T67 l0 a1).f2.f0), .int .i64 ((rd_T67 l0 a1).f2.f1), .int .i64 ((rd_T67 l0 a1).f2.f2), .int .i64 ((rd_T67 l0 a1).f3.f0), .int .i64 x105006_2, .bool x105007_2, .bool x105008_2, .int .i64 x105009_2, .int .i64 x105010_2, .bool x105011_2, .bool x105012_2, .int .i64 x105013_2, .slice none 0 0]) ?_ 6 _ rfl; refine cz ?_; refine z9q (cs := #[.int .i64 ((rd_T67 l0 a1).f0), .string ((rd_T67 l0 a1).f1), .bool ((rd_T67 l0 a1).f2.f0), .int .i64 ((rd_T67 l0 a1).f2.f1), .int .i64 ((rd_T67 l0 a1).f2.f2), .int .i64 x105005_2, .int .i64 x105006_2, .bool x105007_2, .bool x105008_2, .int .i64 x105009_2, .int .i64 x105010_2, .bool x105011_2, .bool x105012_2, .int .i64 x105013_2, .slice none 0 0]) ?_ 5 _ rfl; refine cz ?_; refine z9q (cs := #[.int .i64 ((rd_T67 l0 a1).f0), .string ((rd_T67 l0 a1).f1), .bool ((rd_T67 l0 a1).f2.f0), .int .i64 ((rd_T67 l0 a1).f2.f1), .int .i64 x105004_2, .int .i64 x105005_2, .int .i64 x105006_2, .bool x105007_2, .bool x105008_2, .int .i64 x105009_2, .int .i64 x105010_2, .bool x105011_2, .bool x105012_2, .int .i64 x105013_2, .slice none 0 0]) ?_ 4 _ rfl; refine cz ?_; refine z9q (cs := #[.int .i64 ((rd_T67 l0 a1).f0), .string ((rd_T67 l0 a1).f1), .bool ((rd_T67 l0 a1).f2.f0), .int .i64 x105003_2, .int .i64 x105004_2, .int .i64 x105005_2, .int .i64 x105006_2, .bool x105007_2, .bool x105008_2, .int .i64 x105009_2, .int .i64 x105010_2, .bool x105011_2, .bool x105012_2, .int .i64 x105013_2, .slice none 0 0]) ?_ 3 _ rfl; refine cz ?_; refine z9q (cs := #[.int .i64 ((rd_T67 l0 a1).f0), .string ((rd_T67 l0 a1).f1), .bool x105002_2, .int .i64 x105003_2, .int .i64 x105004_2, .int .i64 x105005_2, .int .i64 x105006_2, .bool x105007_2, .bool x105008_2, .int .i64 x105009_2, .int .i64 x105010_2, .bool x105011_2, .bool x105012_2, .int .i64 x105013_2, .slice none 0 0]) ?_ 2 _ rfl; refine cz ?_; refine z9q (cs := #[.int .i64 ((rd_T67 l0 a1).f0), .string x105001_2, .bool x105002_2, .int .i64 x105003_2, .int .i64 x105004_2, .int .i64 x105005_2, .int .i64 x105006_2, .bool x105007_2, .bool x105008_2, .int .i64 x105009_2, .int .i64 x105010_2, .bool x105011_2, .bool x105012_2, .int .i64 x105013_2, .slice none 0 0]) ?_ 1 _ rfl; refine cz ?_; refine z9q (cs := #[.int .i64 x105000_2, .string x105001_2, .bool x105002_2, .int .i64 x105003_2, .int .i64 x105004_2, .int .i64 x105005_2, .int .i64 x105006_2, .bool x105007_2, .bool x105008_2, .int .i64 x105009_2, .int .i64 x105010_2, .bool x105011_2, .bool x105012_2, .int .i64 x105013_2, .slice none 0 0]) ?_ 0 _ rfl; exact cy BK104.out) Tryz.underlying70 rfl (by kernel_rfl)) rfl ?_
         exact ⟨_, by first | rfl | (simp [errW_none, errW_some] <;> rfl) | (simp [*, errW_none, errW_some] <;> rfl), by (with_reducible repeat (first | apply Kd.R_alloc | apply Kd.R_drewN | apply Kd.R_drew)); exact Kd.R_mono (Kd.R_far (p := ⟨gb104, 14, none⟩) (Kd.R_far (p := ⟨gb104, 13, none⟩) (Kd.R_far (p := ⟨gb104, 12, none⟩) (Kd.R_far (p := ⟨gb104, 11, none⟩) (Kd.R_far (p := ⟨gb104, 10, none⟩) (Kd.R_far (p := ⟨gb104, 9, none⟩) (Kd.R_far (p := ⟨gb104, 8, none⟩) (Kd.R_far (p := ⟨gb104, 7, none⟩) (Kd.R_far (p := ⟨gb104, 6, none⟩) (Kd.R_far (p := ⟨gb104, 5, none⟩) (Kd.R_far (p := ⟨gb104, 4, none⟩) (Kd.R_far (p := ⟨gb104, 3, none⟩) (Kd.R_far (p := ⟨gb104, 2, none⟩) (Kd.R_far (p := ⟨gb104, 1, none⟩) (Kd.R_far (p := ⟨gb104, 0, none⟩) (Kd.R_mono HO_109014.out (fun k_ hk => (⟨hk, hk.1⟩ : _ ∧ k_ ≠ gb104))) (fun _ hk => hk.2) (.int .i64 ((rd_T67 l0 a1).f0))) (fun _ hk => hk.2) (.string ((rd_T67 l0 a1).f1))) (fun _ hk => hk.2) (.bool ((rd_T67 l0 a1).f2.f0))) (fun _ hk => hk.2) (.int .i64 ((rd_T67 l0 a1).f2.f1))) (fun _ hk => hk.2) (.int .i64 ((rd_T67 l0 a1).f2.f2))) (fun _ hk => hk.2) (.int .i64 ((rd_T67 l0 a1).f3.f0))) (fun _ hk => hk.2) (.int .i64 ((rd_T67 l0 a1).f3.f1))) (fun _ hk => hk.2) (.bool ((rd_T67 l0 a1).f3.f2))) (fun _ hk => hk.2) (.bool ((rd_T67 l0 a1).f3.f3))) (fun _ hk => hk.2) (.int .i64 ((rd_T67 l0 a1).f4.f0))) (fun _ hk => hk.2) (.int .i64 ((rd_T67 l0 a1).f4.f1))) (fun _ hk => hk.2) (.bool ((rd_T67 l0 a1).f4.f2))) (fun _ hk => hk.2) (.bool ((rd_T67 l0 a1).f4.f3))) (fun _ hk => hk.2) (.int .i64 ((rd_T67 l0 a1).f5))) (fun _ hk => hk.2) (.slice Ao48 x109014_2.length co48)) (fun _ hk => trivial), by repeat (first | (with_reducible first | exact HB.out | apply z2q | apply z3q | apply z4q | refine z8q ?_ GE104.out | refine z8q ?_ GE108.out) | exact HB.out)⟩
     ·rw [if_neg c14] at H
      exact absurd H (by simp)
    ·rw [if_neg c13] at H
     exact absurd H (by simp)



end Go.Proofs.YtegdpgpbdcediaaGreatDoor.PFnExactGoodFormula
