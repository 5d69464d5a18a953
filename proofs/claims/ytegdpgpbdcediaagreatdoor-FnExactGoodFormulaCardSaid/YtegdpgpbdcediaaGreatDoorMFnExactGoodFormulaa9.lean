/- Functions of the program as Lean functions, and proofs that the Go code comes to their answers: for the law FnExactGoodFormula; made out of the print by a program of mine (compact.py). No conditions but each theorem's own. -/
import Derived.Test.YtegdpgpbdcediaaGreatDoorMFnExactGoodFormulaa0
import Derived.Test.YtegdpgpbdcediaaGreatDoorMFnExactGoodFormulaa1
import Derived.Test.YtegdpgpbdcediaaGreatDoorMFnExactGoodFormulaa7
import Derived.Test.YtegdpgpbdcediaaGreatDoorMFnExactGoodFormulaa8
namespace Go.Proofs.YtegdpgpbdcediaaGreatDoor.PFnExactGoodFormula
open List (map_toArray map_cons map_nil length_drop length_take set_cons_zero set_cons_succ setIfInBounds_toArray)
open Go.RowKit Go.Proofs.YtegdpgpbdcediaaGreatDoorW.PrintWords Go.Proofs.YtegdpgpbdcediaaGreatDoorW.PrintLast Go.Proofs.YtegdpgpbdcediaaGreatDoorW.PrintMore
attribute [local go_sem] max2_int min2_int max_two min_two max_three min_three max_four min_four   -- for this text's walks alone
set_option linter.unusedVariables false
set_option linter.unusedSimpArgs false

attribute [local go_sem high] eqA47 eqA65
abbrev bt9_0 : Array Bool := #[false, false, false, false, false, false, false, false, false, false, false]
abbrev bt9_1 : Array Bool := #[false, true, false, false, false, false, false, false, false, false, false]
abbrev bt9_2 : Array Bool := #[false, true, true, false, false, false, false, false, false, false, false]
abbrev bt9_3 : Array Bool := #[false, true, true, true, false, false, false, false, false, false, false]
abbrev bt9_4 : Array Bool := #[false, true, true, true, true, false, false, false, false, false, false]
abbrev bt9_5 : Array Bool := #[false, true, true, true, true, true, false, false, false, false, false]
abbrev bt9_6 : Array Bool := #[true, true, true, true, true, true, false, false, false, false, false]
abbrev bt9_7 : Array Bool := #[true, true, true, true, true, true, true, false, false, false, false]
abbrev bt9_8 : Array Bool := #[true, true, true, true, true, true, true, true, false, false, false]
abbrev bt9_9 : Array Bool := #[true, true, true, true, true, true, true, true, true, false, false]
abbrev bt9_10 : Array Bool := #[true, true, true, true, true, true, true, true, true, true, false]
abbrev bt9_11 : Array Bool := #[true, true, true, true, true, true, true, true, true, true, true]
abbrev bt9_12 : Array Bool := #[false, true, true, true, true, true, true, false, false, false, false]
abbrev bt9_13 : Array Bool := #[false, true, true, true, true, true, true, true, false, false, false]
abbrev bt9_14 : Array Bool := #[false, true, true, true, true, true, true, true, true, false, false]
set_option maxHeartbeats 8000000 in
set_option maxRecDepth 100000 in
theorem spec_l4Read.calls_p1 (k : Nat) (A0 : Option Addr) (c0 : Nat) (l0 : List (S67)) (r1 : Int) (r2 : ByteArray) (r3 : Bool) (r4 : Int) (r5 : Int) (r6 : Int) (r7 : Int) (r8 : Bool) (r9 : Bool) (r10 : Int) (r11 : Int) (r12 : Bool) (r13 : Bool) (r14 : Int) (r15 : List (S70)) (r16 : Bool) (w : World) (hr0 : Kd.C k67 w A0 l0.length l0) (hc0 : l0.length ≤ c0) (H : (if (l0.length : Int) = 0 then (spec_l4Read.j0 k l0 true) else (spec_l4Read.j0 k l0 (decide ((l0.length : Int) > 300)))) = some (r1, r2, r3, r4, r5, r6, r7, r8, r9, r10, r11, r12, r13, r14, r15, r16)) :
  Calls Tryz.prog 35 #[.slice A0 l0.length c0] w fun e w' => ∃ v14_ : Value, e = .returned (.tuple #[.agg #[.int .i64 r1, .string r2, .bool r3, .int .i64 r4, .int .i64 r5, .int .i64 r6, .int .i64 r7, .bool r8, .bool r9, .int .i64 r10, .int .i64 r11, .bool r12, .bool r13, .int .i64 r14, v14_], .bool r16]) ∧ Kd.R k70 70 w' w.heap.size (fun _ => True) v14_ r15 ∧ Below w.heap.size w w' := by
 have hu70 := Tryz.underlying70
 have HR0 := Aside0.mk hr0
 have HC0 := Aside0.mk hc0
 clear hr0 hc0
 have HB := Aside0.mk (Below.refl w.heap.size w)
 have HC2 := Aside0.mk H
 clear H
 go_enter Tryz.func35, Tryz.ntmps35
 go_upto_region 1 with (first | ((with_reducible refine z17q (N := 2) rfl ?_); (try (refine gate_guard (by rfl) ?_; dsimp only)); refine z16q ?hg (N := 2) ?hd (cs := #[.int .i64 0, .string (⟨#[]⟩ : ByteArray), .bool false, .int .i64 0, .int .i64 0, .int .i64 0, .int .i64 0, .bool false, .bool false, .int .i64 0, .int .i64 0, .bool false, .bool false, .int .i64 0, .slice none 0 0]) (t := 70) ?hr ?_; (case hd => rfl); (case hg => rfl); (case hr => first | (go_simp; done) | (go_simp; rfl)); intro gb290 hg w3 hbox hb; have n0_ := Aside0.mk (z6q (ibh HB.out) hb); have n1_ := Aside0.mk (hbox); have n2_ := Aside0.mk ((by rw [hg]; exact (z7q (ibh HB.out)) : w.heap.size ≤ gb290)); have n3_ := Aside0.mk ((by rw [hg]; exact (z7q (ibh HB.out)) : w.heap.size ≤ gb290)); clear HB; have HB := n0_; have BK290 := n1_; have GW290 := n2_; have GE290 := n3_; clear n0_ n1_ n2_ n3_; clear hb hbox hg))
 (try simp only [Act.put, setIfInBounds_toArray, set_cons_zero, set_cons_succ])
 go_cut [13] (fun v13 wc => ∃ (kq : Nat) (x13_1 : Bool), v13 = .bool x13_1 ∧ Aside0 (spec_l4Read.j0 kq l0 x13_1 = some (r1, r2, r3, r4, r5, r6, r7, r8, r9, r10, r11, r12, r13, r14, r15, r16)) ∧ Aside0 (kq ≤ k) ∧ Aside0 (wc.heap[gb290]? = some (.cells #[.int .i64 0, .string (⟨#[]⟩ : ByteArray), .bool false, .int .i64 0, .int .i64 0, .int .i64 0, .int .i64 0, .bool false, .bool false, .int .i64 0, .int .i64 0, .bool false, .bool false, .int .i64 0, (.slice none 0 0)] 70 (0, 0))) ∧ Aside0 (Below w.heap.size w wc))
 case first =>
  have H := HC2.out
  clear HC2
  by_cases c4 : (l0.length : Int) = 0
  ·rw [if_pos c4] at H
   have c4b0 : ((l0.length : Int) == 0) = true := beq_iff_eq.mpr c4
   have c4b1 : ((l0.length : Int) != 0) = false := bne_eq_false_iff_eq.mpr c4
   clear c4
   (first | rw [c4b0] | (simp only [i64_w, i32_w]; rw [c4b0]) | skip)
   have H' := Aside0.mk H
   clear H
   go_wp2
   go_meet
   case rel => exact ⟨_, (true), (by first | rfl | (simp; done) | (simp [*]; done) | (simp; unfold wrap64; omega)), H', ⟨by first | omega | exact Nat.le_refl _⟩, ⟨by (with_reducible repeat (first | refine z11q ?_ _ | refine z13q ?_ | refine z10q ?_ _)); exact BK290.out⟩, ⟨by repeat (first | (with_reducible first | exact HB.out | apply z2q | apply z3q | apply z4q | refine z8q ?_ GE290.out) | exact HB.out)⟩⟩
  ·rw [if_neg c4] at H
   have c4b0 : ((l0.length : Int) == 0) = false := beq_eq_false_iff_ne.mpr c4
   have c4b1 : ((l0.length : Int) != 0) = true := bne_iff_ne.mpr c4
   have c4b2 : ¬ (l0 = []) := fun h_ => c4 (by rw [h_]; rfl)
   (first | rw [c4b0] | (simp only [i64_w, i32_w]; rw [c4b0]) | skip)
   have H' := Aside0.mk H
   clear H
   go_wp2
   go_meet
   case rel => exact ⟨_, (decide ((l0.length : Int) > 300)), (by first | rfl | (simp; done) | (simp [*]; done) | (simp; unfold wrap64; omega)), H', ⟨by first | omega | exact Nat.le_refl _⟩, ⟨by (with_reducible repeat (first | refine z11q ?_ _ | refine z13q ?_ | refine z10q ?_ _)); exact BK290.out⟩, ⟨by repeat (first | (with_reducible first | exact HB.out | apply z2q | apply z3q | apply z4q | refine z8q ?_ GE290.out) | exact HB.out)⟩⟩
 case rest =>
  clear HC2
  try clear p2
  try clear c3
  try clear c4
  try clear c4b0
  try clear c4b1
  try clear c4b2
  obtain ⟨kq, x13_1, rfl, HA, HJ1, BK290, HB⟩ := hcut
  cases kq with
  | zero => exact absurd HA.out (by simp [spec_l4Read.j0])
  | succ kj1 =>
   have H := HA.out
   clear HA
   simp only [spec_l4Read.j0] at H
   by_cases c5 : x13_1 = true
   ·subst c5
    have H1 : (some (0, (⟨#[]⟩ : ByteArray), false, 0, 0, 0, 0, false, false, 0, 0, false, false, 0, ([] : List (S70)), false)) = some (r1, r2, r3, r4, r5, r6, r7, r8, r9, r10, r11, r12, r13, r14, r15, r16) := by rw [if_pos rfl] at H; exact H
    clear H
    have H := H1
    clear H1
    simp only [Option.some.injEq, Prod.mk.injEq] at H
    obtain ⟨rfl, rfl, rfl, rfl, rfl, rfl, rfl, rfl, rfl, rfl, rfl, rfl, rfl, rfl, rfl, rfl⟩ := H
    obtain ⟨hcz6_0, hcz6_1, hcz6_2, hcz6_3, hcz6_4, hcz6_5, hcz6_6, hcz6_7, hcz6_8, hcz6_9, hcz6_10, hcz6_11, hcz6_12, hcz6_13, hcz6_14, hfz6_0, hfz6_1, hfz6_2, hfz6_3, hfz6_4, hfz6_5, hfz6_6, hfz6_7, hfz6_8, hfz6_9, hfz6_10, hfz6_11, hfz6_12, hfz6_13, hfz6_14⟩ := cr15 (w := wc) (g := gb290) BK290.out
    go_wp2
    refine bodyPost_ret (results_ct rfl _ _ gb290 70 #[.int .i64 0, .string (⟨#[]⟩ : ByteArray), .bool false, .int .i64 0, .int .i64 0, .int .i64 0, .int .i64 0, .bool false, .bool false, .int .i64 0, .int .i64 0, .bool false, .bool false, .int .i64 0, .slice none 0 0] (0, 0) _ rfl (by refine cz ?_; refine z9q (cs := #[.int .i64 0, .string (⟨#[]⟩ : ByteArray), .bool false, .int .i64 0, .int .i64 0, .int .i64 0, .int .i64 0, .bool false, .bool false, .int .i64 0, .int .i64 0, .bool false, .bool false, .int .i64 0, .slice none 0 0]) ?_ 14 _ rfl; refine cz ?_; refine z9q (cs := #[.int .i64 0, .string (⟨#[]⟩ : ByteArray), .bool false, .int .i64 0, .int .i64 0, .int .i64 0, .int .i64 0, .bool false, .bool false, .int .i64 0, .int .i64 0, .bool false, .bool false, .int .i64 0, .slice none 0 0]) ?_ 13 _ rfl; refine cz ?_; refine z9q (cs := #[.int .i64 0, .string (⟨#[]⟩ : ByteArray), .bool false, .int .i64 0, .int .i64 0, .int .i64 0, .int .i64 0, .bool false, .bool false, .int .i64 0, .int .i64 0, .bool false, .bool false, .int .i64 0, .slice none 0 0]) ?_ 12 _ rfl; refine cz ?_; refine z9q (cs := #[.int .i64 0, .string (⟨#[]⟩ : ByteArray), .bool false, .int .i64 0, .int .i64 0, .int .i64 0, .int .i64 0, .bool false, .bool false, .int .i64 0, .int .i64 0, .bool false, .bool false, .int .i64 0, .slice none 0 0]) ?_ 11 _ rfl; refine cz ?_; refine z9q (cs := #[.int .i64 0, .string (⟨#[]⟩ : ByteArray), .bool false, .int .i64 0, .int .i64 0, .int .i64 0, .int .i64 0, .bool false, .bool false, .int .i64 0, .int .i64 0, .bool false, .bool false, .int .i64 0, .slice none 0 0]) ?_ 10 _ rfl; refine cz ?_; refine z9q (cs := #[.int .i64 0, .string (⟨#[]⟩ : ByteArray), .bool false, .int .i64 0, .int .i64 0, .int .i64 0, .int .i64 0, .bool false, .bool false, .int .i64 0, .int .i64 0, .bool false, .bool false, .int .i64 0, .slice none 0 0]) ?_ 9 _ rfl; refine cz ?_; refine z9q (cs := #[.int .i64 0, .string (⟨#[]⟩ : ByteArray), .bool false, .int .i64 0, .int .i64 0, .int .i64 0, .int .i64 0, .bool false, .bool false, .int .i64 0, .int .i64 0, .bool false, .bool false, .int .i64 0, .slice none 0 0]) ?_ 8 _ rfl; refine cz ?_; refine z9q (cs := #[.int .i64 0, .string (⟨#[]⟩ : ByteArray), .bool false, .int .i64 0, .int .i64 0, .int .i64 0, .int .i64 0, .bool false, .bool false, .int .i64 0, .int .i64 0, .bool false, .bool false, .int .i64 0, .slice none 0 0]) ?_ 7 _ rfl; refine cz ?_; refine z9q (cs := #[.int .i64 0, .string (⟨#[]⟩ : ByteArray), .bool false, .int .i64 0, .int .i64 0, .int .i64 0, .int .i64 0, .bool false, .bool false, .int .i64 0, .int .i64 0, .bool false, .bool false, .int .i64 0, .slice none 0 0]) ?_ 6 _ rfl; refine cz ?_; refine z9q (cs := #[.int .i64 0, .string (⟨#[]⟩ : ByteArray), .bool false, .int .i64 0, .int .i64 0, .int .i64 0, .int .i64 0, .bool false, .bool false, .int .i64 0, .int .i64 0, .bool false, .bool false, .int .i64 0, .slice none 0 0]) ?_ 5 _ rfl; refine cz ?_; refine z9q (cs := #[.int .i64 0, .string (⟨#[]⟩ : ByteArray), .bool false, .int .i64 0, .int .i64 0, .int .i64 0, .int .i64 0, .bool false, .bool false, .int .i64 0, .int .i64 0, .bool false, .bool false, .int .i64 0, .slice none 0 0]) ?_ 4 _ rfl; refine cz ?_; refine z9q (cs := #[.int .i64 0, .string (⟨#[]⟩ : ByteArray), .bool false, .int .i64 0, .int .i64 0, .int .i64 0, .int .i64 0, .bool false, .bool false, .int .i64 0, .int .i64 0, .bool false, .bool false, .int .i64 0, .slice none 0 0]) ?_ 3 _ rfl; refine cz ?_; refine z9q (cs := #[.int .i64 0, .string (⟨#[]⟩ : ByteArray), .bool false, .int .i64 0, .int .i64 0, .int .i64 0, .int .i64 0, .bool false, .bool false, .int .i64 0, .int .i64 0, .bool false, .bool false, .int .i64 0, .slice none 0 0]) ?_ 2 _ rfl; refine cz ?_; refine z9q (cs := #[.int .i64 0, .string (⟨#[]⟩ : ByteArray), .bool false, .int .i64 0, .int .i64 0, .int .i64 0, .int .i64 0, .bool false, .bool false, .int .i64 0, .int .i64 0, .bool false, .bool false, .int .i64 0, .slice none 0 0]) ?_ 1 _ rfl; refine cz ?_; refine z9q (cs := #[.int .i64 0, .string (⟨#[]⟩ : ByteArray), .bool false, .int .i64 0, .int .i64 0, .int .i64 0, .int .i64 0, .bool false, .bool false, .int .i64 0, .int .i64 0, .bool false, .bool false, .int .i64 0, .slice none 0 0]) ?_ 0 _ rfl; exact cy BK290.out) Tryz.underlying70 rfl (by kernel_rfl)) rfl ?_
    exact ⟨_, by first | rfl | (simp [errW_none, errW_some] <;> rfl) | (simp [*, errW_none, errW_some] <;> rfl), by first | exact Kd.R_nil _ _ _ _ _ | exact Kd.N_nil _ _ _ _ _ | exact Kd.V_nil _ _ _ _ _ | exact Kd.Q_nil _ _ _ _ _ | exact Kd.S_nil _ _ _ _ _, by repeat (first | (with_reducible first | exact HB.out | apply z2q | apply z3q | apply z4q | refine z8q ?_ GE290.out) | exact HB.out)⟩
   ·replace c5 := Bool.eq_false_iff.mpr c5
    subst c5
    have H1 : ((spec_l4Take.f kj1 l0 0 0).bind fun bt291 => (if bt291.2.2.2.2.2.2.2.2.2.2.2.2.2.2.2 = (l0.length : Int) then ((spec_l4Good.f kj1 bt291.1 bt291.2.1 bt291.2.2.1 bt291.2.2.2.1 bt291.2.2.2.2.1 bt291.2.2.2.2.2.1 bt291.2.2.2.2.2.2.1 bt291.2.2.2.2.2.2.2.1 bt291.2.2.2.2.2.2.2.2.1 bt291.2.2.2.2.2.2.2.2.2.1 bt291.2.2.2.2.2.2.2.2.2.2.1 bt291.2.2.2.2.2.2.2.2.2.2.2.1 bt291.2.2.2.2.2.2.2.2.2.2.2.2.1 bt291.2.2.2.2.2.2.2.2.2.2.2.2.2.1 bt291.2.2.2.2.2.2.2.2.2.2.2.2.2.2.1).bind fun t310 => (some (bt291.1, bt291.2.1, bt291.2.2.1, bt291.2.2.2.1, bt291.2.2.2.2.1, bt291.2.2.2.2.2.1, bt291.2.2.2.2.2.2.1, bt291.2.2.2.2.2.2.2.1, bt291.2.2.2.2.2.2.2.2.1, bt291.2.2.2.2.2.2.2.2.2.1, bt291.2.2.2.2.2.2.2.2.2.2.1, bt291.2.2.2.2.2.2.2.2.2.2.2.1, bt291.2.2.2.2.2.2.2.2.2.2.2.2.1, bt291.2.2.2.2.2.2.2.2.2.2.2.2.2.1, bt291.2.2.2.2.2.2.2.2.2.2.2.2.2.2.1, t310))) else (some (bt291.1, bt291.2.1, bt291.2.2.1, bt291.2.2.2.1, bt291.2.2.2.2.1, bt291.2.2.2.2.2.1, bt291.2.2.2.2.2.2.1, bt291.2.2.2.2.2.2.2.1, bt291.2.2.2.2.2.2.2.2.1, bt291.2.2.2.2.2.2.2.2.2.1, bt291.2.2.2.2.2.2.2.2.2.2.1, bt291.2.2.2.2.2.2.2.2.2.2.2.1, bt291.2.2.2.2.2.2.2.2.2.2.2.2.1, bt291.2.2.2.2.2.2.2.2.2.2.2.2.2.1, bt291.2.2.2.2.2.2.2.2.2.2.2.2.2.2.1, false)))) = some (r1, r2, r3, r4, r5, r6, r7, r8, r9, r10, r11, r12, r13, r14, r15, r16) := by rw [if_neg (show ¬ (false = true) by decide)] at H; exact H
    clear H
    have H := H1
    clear H1
    replace H := Option.bind_eq_some_iff.mp H
    obtain ⟨⟨t291, t292, t293, t294, t295, t296, t297, t298, t299, t300, t301, t302, t303, t304, t305, t308⟩, A70, H⟩ := H
    replace H : (if t308 = (l0.length : Int) then ((spec_l4Good.f kj1 t291 t292 t293 t294 t295 t296 t297 t298 t299 t300 t301 t302 t303 t304 t305).bind fun t310 => (some (t291, t292, t293, t294, t295, t296, t297, t298, t299, t300, t301, t302, t303, t304, t305, t310))) else (some (t291, t292, t293, t294, t295, t296, t297, t298, t299, t300, t301, t302, t303, t304, t305, false))) = some (r1, r2, r3, r4, r5, r6, r7, r8, r9, r10, r11, r12, r13, r14, r15, r16) := H
    have A7 := Aside0.mk A70
    clear A70
    by_cases c8 : t308 = (l0.length : Int)
    ·rw [if_pos c8] at H
     have c8b0 : (t308 == (l0.length : Int)) = true := beq_iff_eq.mpr c8
     have c8b1 : (t308 != (l0.length : Int)) = false := bne_eq_false_iff_eq.mpr c8
     clear c8
     replace H := Option.bind_eq_some_iff.mp H
     obtain ⟨t310, A90, H⟩ := H
     replace H : (some (t291, t292, t293, t294, t295, t296, t297, t298, t299, t300, t301, t302, t303, t304, t305, t310)) = some (r1, r2, r3, r4, r5, r6, r7, r8, r9, r10, r11, r12, r13, r14, r15, r16) := H
     have A9 := Aside0.mk A90
     clear A90
     simp only [Option.some.injEq, Prod.mk.injEq] at H
     obtain ⟨rfl, rfl, rfl, rfl, rfl, rfl, rfl, rfl, rfl, rfl, rfl, rfl, rfl, rfl, rfl, rfl⟩ := H
     try go_wp2_with (first | ((with_reducible refine z14q (f := 70) rfl ?_); refine z20q (some 17) rfl rfl Tryz.func70 (by kernel_rfl) rfl #[.slice A0 l0.length c0, .int .i64 0, .int .i64 0] rfl (by (try simp only [map_toArray, map_cons, map_nil]); first | done | rfl | (simp only [length_drop, length_take]; rfl)) ?_; (with_reducible refine (spec_l4Take.calls kj1 _ _ l0 0 0 t291 t292 t293 t294 t295 t296 t297 t298 t299 t300 t301 t302 t303 t304 t305 t308 _ ?side1 ?side2 A7.out).mono ?_); (case side1 => exact Kd.C_below HR0.out ib); (case side2 => exact HC0.out); rintro e w10 ⟨v306, rfl, ho0, hb⟩; refine ⟨_, rfl, ?_⟩; have n0_ := Aside0.mk (Kd.R_lower (Kd.R_newB ho0 (g := gb290) (o := .cells #[.int .i64 0, .string (⟨#[]⟩ : ByteArray), .bool false, .int .i64 0, .int .i64 0, .int .i64 0, .int .i64 0, .bool false, .bool false, .int .i64 0, .int .i64 0, .bool false, .bool false, .int .i64 0, .slice none 0 0] 70 (0, 0)) (cy BK290.out)) (z7q (ibh HB.out))); have n1_ := Aside0.mk (z15q (g := gb290) (o := .cells #[.int .i64 0, .string (⟨#[]⟩ : ByteArray), .bool false, .int .i64 0, .int .i64 0, .int .i64 0, .int .i64 0, .bool false, .bool false, .int .i64 0, .int .i64 0, .bool false, .bool false, .int .i64 0, .slice none 0 0] 70 (0, 0)) (cy BK290.out) hb); have n2_ := Aside0.mk (z6q (ibh HB.out) hb); clear BK290; clear HB; have HO307 := n0_; have BK290 := n1_; have HB := n2_; clear n0_ n1_ n2_; (try clear hb); (try clear hb2); (try clear hk); (try clear hi); (try clear ho0)) | ((with_reducible refine z17q (N := 4) rfl ?_); (try (refine gate_guard (by rfl) ?_; dsimp only)); refine z16q ?hg (N := 4) ?hd (cs := #[.int .i64 0, .string (⟨#[]⟩ : ByteArray), .bool false, .int .i64 0, .int .i64 0, .int .i64 0, .int .i64 0, .bool false, .bool false, .int .i64 0, .int .i64 0, .bool false, .bool false, .int .i64 0, .slice none 0 0]) (t := 70) ?hr ?_; (case hd => rfl); (case hg => rfl); (case hr => first | (go_simp; done) | (go_simp; rfl)); intro gb309 hg w11 hbox hb; have n0_ := Aside0.mk (Kd.R_below (Kd.R_elderB (ro HO307.out) gb309 (Nat.le_of_eq hg.symm)) hb); have n1_ := Aside0.mk (z15q (g := gb290) (o := .cells #[.int .i64 0, .string (⟨#[]⟩ : ByteArray), .bool false, .int .i64 0, .int .i64 0, .int .i64 0, .int .i64 0, .bool false, .bool false, .int .i64 0, .int .i64 0, .bool false, .bool false, .int .i64 0, .slice none 0 0] 70 (0, 0)) (cy BK290.out) hb); have n2_ := Aside0.mk (z6q (ibh HB.out) hb); have n3_ := Aside0.mk (hbox); have n4_ := Aside0.mk ((by rw [hg]; exact (z7q (ibh HB.out)) : w.heap.size ≤ gb309)); have n5_ := Aside0.mk ((by rw [hg]; exact (z7q (ibh HB.out)) : w.heap.size ≤ gb309)); have n6_ := Aside0.mk ((by rw [hg]; exact Nat.ne_of_lt (z21q (g := gb290) (o := .cells #[.int .i64 0, .string (⟨#[]⟩ : ByteArray), .bool false, .int .i64 0, .int .i64 0, .int .i64 0, .int .i64 0, .bool false, .bool false, .int .i64 0, .int .i64 0, .bool false, .bool false, .int .i64 0, .slice none 0 0] 70 (0, 0)) (cy BK290.out)) : gb290 ≠ gb309)); have n7_ := Aside0.mk ((by rw [hg]; exact Nat.ne_of_gt (z21q (g := gb290) (o := .cells #[.int .i64 0, .string (⟨#[]⟩ : ByteArray), .bool false, .int .i64 0, .int .i64 0, .int .i64 0, .int .i64 0, .bool false, .bool false, .int .i64 0, .int .i64 0, .bool false, .bool false, .int .i64 0, .slice none 0 0] 70 (0, 0)) (cy BK290.out)) : gb309 ≠ gb290)); clear HO307; clear BK290; clear HB; have HO307 := n0_; have BK290 := n1_; have HB := n2_; have BK309 := n3_; have GW309 := n4_; have GE309 := n5_; have NB290_309 := n6_; have NB309_290 := n7_; clear n0_ n1_ n2_ n3_ n4_ n5_ n6_ n7_; clear hb hbox hg; have hnb12 := NB309_290.out; have hnc12 := NB290_309.out; obtain ⟨hcz13_0, hcz13_1, hcz13_2, hcz13_3, hcz13_4, hcz13_5, hcz13_6, hcz13_7, hcz13_8, hcz13_9, hcz13_10, hcz13_11, hcz13_12, hcz13_13, hcz13_14, hfz13_0, hfz13_1, hfz13_2, hfz13_3, hfz13_4, hfz13_5, hfz13_6, hfz13_7, hfz13_8, hfz13_9, hfz13_10, hfz13_11, hfz13_12, hfz13_13, hfz13_14⟩ := cr15 (w := w11) (g := gb309) BK309.out; obtain ⟨Ao14, co14, eo14⟩ := Kd.R_slice HO307.out; subst eo14))
     have n0_ : Aside0 (Kd.R k70 70 (((((((((((((((w11.setCell ⟨gb309, 0, none⟩ (.int .i64 t291)).setCell ⟨gb309, 1, none⟩ (.string t292)).setCell ⟨gb309, 2, none⟩ (.bool t293)).setCell ⟨gb309, 3, none⟩ (.int .i64 t294)).setCell ⟨gb309, 4, none⟩ (.int .i64 t295)).setCell ⟨gb309, 5, none⟩ (.int .i64 t296)).setCell ⟨gb309, 6, none⟩ (.int .i64 t297)).setCell ⟨gb309, 7, none⟩ (.bool t298)).setCell ⟨gb309, 8, none⟩ (.bool t299)).setCell ⟨gb309, 9, none⟩ (.int .i64 t300)).setCell ⟨gb309, 10, none⟩ (.int .i64 t301)).setCell ⟨gb309, 11, none⟩ (.bool t302)).setCell ⟨gb309, 12, none⟩ (.bool t303)).setCell ⟨gb309, 13, none⟩ (.int .i64 t304)).setCell ⟨gb309, 14, none⟩ (.slice Ao14 t305.length co14)) w.heap.size (fun k_ => k_ ≠ gb290 ∧ k_ ≠ gb309) (.slice Ao14 t305.length co14) t305) := ⟨by (with_reducible repeat (first | apply Kd.R_alloc | apply Kd.R_drewN | apply Kd.R_drew)); exact Kd.R_mono (Kd.R_far (p := ⟨gb309, 14, none⟩) (Kd.R_far (p := ⟨gb309, 13, none⟩) (Kd.R_far (p := ⟨gb309, 12, none⟩) (Kd.R_far (p := ⟨gb309, 11, none⟩) (Kd.R_far (p := ⟨gb309, 10, none⟩) (Kd.R_far (p := ⟨gb309, 9, none⟩) (Kd.R_far (p := ⟨gb309, 8, none⟩) (Kd.R_far (p := ⟨gb309, 7, none⟩) (Kd.R_far (p := ⟨gb309, 6, none⟩) (Kd.R_far (p := ⟨gb309, 5, none⟩) (Kd.R_far (p := ⟨gb309, 4, none⟩) (Kd.R_far (p := ⟨gb309, 3, none⟩) (Kd.R_far (p := ⟨gb309, 2, none⟩) (Kd.R_far (p := ⟨gb309, 1, none⟩) (Kd.R_far (p := ⟨gb309, 0, none⟩) (Kd.R_mono HO307.out (fun k_ hk => (⟨hk, hk.2⟩ : _ ∧ k_ ≠ gb309))) (fun _ hk => hk.2) (.int .i64 t291)) (fun _ hk => hk.2) (.string t292)) (fun _ hk => hk.2) (.bool t293)) (fun _ hk => hk.2) (.int .i64 t294)) (fun _ hk => hk.2) (.int .i64 t295)) (fun _ hk => hk.2) (.int .i64 t296)) (fun _ hk => hk.2) (.int .i64 t297)) (fun _ hk => hk.2) (.bool t298)) (fun _ hk => hk.2) (.bool t299)) (fun _ hk => hk.2) (.int .i64 t300)) (fun _ hk => hk.2) (.int .i64 t301)) (fun _ hk => hk.2) (.bool t302)) (fun _ hk => hk.2) (.bool t303)) (fun _ hk => hk.2) (.int .i64 t304)) (fun _ hk => hk.2) (.slice Ao14 t305.length co14)) (fun _ hk => ⟨hk.1.1.2, hk.1.2⟩)⟩
     have n1_ : Aside0 ((((((((((((((((w11.setCell ⟨gb309, 0, none⟩ (.int .i64 t291)).setCell ⟨gb309, 1, none⟩ (.string t292)).setCell ⟨gb309, 2, none⟩ (.bool t293)).setCell ⟨gb309, 3, none⟩ (.int .i64 t294)).setCell ⟨gb309, 4, none⟩ (.int .i64 t295)).setCell ⟨gb309, 5, none⟩ (.int .i64 t296)).setCell ⟨gb309, 6, none⟩ (.int .i64 t297)).setCell ⟨gb309, 7, none⟩ (.bool t298)).setCell ⟨gb309, 8, none⟩ (.bool t299)).setCell ⟨gb309, 9, none⟩ (.int .i64 t300)).setCell ⟨gb309, 10, none⟩ (.int .i64 t301)).setCell ⟨gb309, 11, none⟩ (.bool t302)).setCell ⟨gb309, 12, none⟩ (.bool t303)).setCell ⟨gb309, 13, none⟩ (.int .i64 t304)).setCell ⟨gb309, 14, none⟩ (.slice Ao14 t305.length co14)).heap[gb290]? = some (.cells #[.int .i64 0, .string (⟨#[]⟩ : ByteArray), .bool false, .int .i64 0, .int .i64 0, .int .i64 0, .int .i64 0, .bool false, .bool false, .int .i64 0, .int .i64 0, .bool false, .bool false, .int .i64 0, .slice none 0 0] 70 (0, 0))) := ⟨by (with_reducible repeat (first | refine z11q ?_ _ | refine z13q ?_ | refine z10q ?_ _)); refine z18q ?_ NB290_309.out _; (with_reducible repeat (first | refine z11q ?_ _ | refine z13q ?_ | refine z10q ?_ _)); refine z18q ?_ NB290_309.out _; (with_reducible repeat (first | refine z11q ?_ _ | refine z13q ?_ | refine z10q ?_ _)); refine z18q ?_ NB290_309.out _; (with_reducible repeat (first | refine z11q ?_ _ | refine z13q ?_ | refine z10q ?_ _)); refine z18q ?_ NB290_309.out _; (with_reducible repeat (first | refine z11q ?_ _ | refine z13q ?_ | refine z10q ?_ _)); refine z18q ?_ NB290_309.out _; (with_reducible repeat (first | refine z11q ?_ _ | refine z13q ?_ | refine z10q ?_ _)); refine z18q ?_ NB290_309.out _; (with_reducible repeat (first | refine z11q ?_ _ | refine z13q ?_ | refine z10q ?_ _)); refine z18q ?_ NB290_309.out _; (with_reducible repeat (first | refine z11q ?_ _ | refine z13q ?_ | refine z10q ?_ _)); refine z18q ?_ NB290_309.out _; (with_reducible repeat (first | refine z11q ?_ _ | refine z13q ?_ | refine z10q ?_ _)); refine z18q ?_ NB290_309.out _; (with_reducible repeat (first | refine z11q ?_ _ | refine z13q ?_ | refine z10q ?_ _)); refine z18q ?_ NB290_309.out _; (with_reducible repeat (first | refine z11q ?_ _ | refine z13q ?_ | refine z10q ?_ _)); refine z18q ?_ NB290_309.out _; (with_reducible repeat (first | refine z11q ?_ _ | refine z13q ?_ | refine z10q ?_ _)); refine z18q ?_ NB290_309.out _; (with_reducible repeat (first | refine z11q ?_ _ | refine z13q ?_ | refine z10q ?_ _)); refine z18q ?_ NB290_309.out _; (with_reducible repeat (first | refine z11q ?_ _ | refine z13q ?_ | refine z10q ?_ _)); refine z18q ?_ NB290_309.out _; (with_reducible repeat (first | refine z11q ?_ _ | refine z13q ?_ | refine z10q ?_ _)); refine z18q ?_ NB290_309.out _; (with_reducible repeat (first | refine z11q ?_ _ | refine z13q ?_ | refine z10q ?_ _)); exact BK290.out⟩
     have n2_ : Aside0 ((((((((((((((((w11.setCell ⟨gb309, 0, none⟩ (.int .i64 t291)).setCell ⟨gb309, 1, none⟩ (.string t292)).setCell ⟨gb309, 2, none⟩ (.bool t293)).setCell ⟨gb309, 3, none⟩ (.int .i64 t294)).setCell ⟨gb309, 4, none⟩ (.int .i64 t295)).setCell ⟨gb309, 5, none⟩ (.int .i64 t296)).setCell ⟨gb309, 6, none⟩ (.int .i64 t297)).setCell ⟨gb309, 7, none⟩ (.bool t298)).setCell ⟨gb309, 8, none⟩ (.bool t299)).setCell ⟨gb309, 9, none⟩ (.int .i64 t300)).setCell ⟨gb309, 10, none⟩ (.int .i64 t301)).setCell ⟨gb309, 11, none⟩ (.bool t302)).setCell ⟨gb309, 12, none⟩ (.bool t303)).setCell ⟨gb309, 13, none⟩ (.int .i64 t304)).setCell ⟨gb309, 14, none⟩ (.slice Ao14 t305.length co14)).heap[gb309]? = some (.cells #[.int .i64 t291, .string t292, .bool t293, .int .i64 t294, .int .i64 t295, .int .i64 t296, .int .i64 t297, .bool t298, .bool t299, .int .i64 t300, .int .i64 t301, .bool t302, .bool t303, .int .i64 t304, .slice Ao14 t305.length co14] 70 (0, 0))) := ⟨by refine cz ?_; refine z9q (cs := #[.int .i64 t291, .string t292, .bool t293, .int .i64 t294, .int .i64 t295, .int .i64 t296, .int .i64 t297, .bool t298, .bool t299, .int .i64 t300, .int .i64 t301, .bool t302, .bool t303, .int .i64 t304, .slice none 0 0]) ?_ 14 _ rfl; refine cz ?_; refine z9q (cs := #[.int .i64 t291, .string t292, .bool t293, .int .i64 t294, .int .i64 t295, .int .i64 t296, .int .i64 t297, .bool t298, .bool t299, .int .i64 t300, .int .i64 t301, .bool t302, .bool t303, .int .i64 0, .slice none 0 0]) ?_ 13 _ rfl; refine cz ?_; refine z9q (cs := #[.int .i64 t291, .string t292, .bool t293, .int .i64 t294, .int .i64 t295, .int .i64 t296, .int .i64 t297, .bool t298, .bool t299, .int .i64 t300, .int .i64 t301, .bool t302, .bool false, .int .i64 0, .slice none 0 0]) ?_ 12 _ rfl; refine cz ?_; refine z9q (cs := #[.int .i64 t291, .string t292, .bool t293, .int .i64 t294, .int .i64 t295, .int .i64 t296, .int .i64 t297, .bool t298, .bool t299, .int .i64 t300, .int .i64 t301, .bool false, .bool false, .int .i64 0, .slice none 0 0]) ?_ 11 _ rfl; refine cz ?_; refine z9q (cs := #[.int .i64 t291, .string t292, .bool t293, .int .i64 t294, .int .i64 t295, .int .i64 t296, .int .i64 t297, .bool t298, .bool t299, .int .i64 t300, .int .i64 0, .bool false, .bool false, .int .i64 0, .slice none 0 0]) ?_ 10 _ rfl; refine cz ?_; refine z9q (cs := #[.int .i64 t291, .string t292, .bool t293, .int .i64 t294, .int .i64 t295, .int .i64 t296, .int .i64 t297, .bool t298, .bool t299, .int .i64 0, .int .i64 0, .bool false, .bool false, .int .i64 0, .slice none 0 0]) ?_ 9 _ rfl; refine cz ?_; refine z9q (cs := #[.int .i64 t291, .string t292, .bool t293, .int .i64 t294, .int .i64 t295, .int .i64 t296, .int .i64 t297, .bool t298, .bool false, .int .i64 0, .int .i64 0, .bool false, .bool false, .int .i64 0, .slice none 0 0]) ?_ 8 _ rfl; refine cz ?_; refine z9q (cs := #[.int .i64 t291, .string t292, .bool t293, .int .i64 t294, .int .i64 t295, .int .i64 t296, .int .i64 t297, .bool false, .bool false, .int .i64 0, .int .i64 0, .bool false, .bool false, .int .i64 0, .slice none 0 0]) ?_ 7 _ rfl; refine cz ?_; refine z9q (cs := #[.int .i64 t291, .string t292, .bool t293, .int .i64 t294, .int .i64 t295, .int .i64 t296, .int .i64 0, .bool false, .bool false, .int .i64 0, .int .i64 0, .bool false, .bool false, .int .i64 0, .slice none 0 0]) ?_ 6 _ rfl; refine cz ?_; refine z9q (cs := #[.int .i64 t291, .string t292, .bool t293, .int .i64 t294, .int .i64 t295, .int .i64 0, .int .i64 0, .bool false, .bool false, .int .i64 0, .int .i64 0, .bool false, .bool false, .int .i64 0, .slice none 0 0]) ?_ 5 _ rfl; refine cz ?_; refine z9q (cs := #[.int .i64 t291, .string t292, .bool t293, .int .i64 t294, .int .i64 0, .int .i64 0, .int .i64 0, .bool false, .bool false, .int .i64 0, .int .i64 0, .bool false, .bool false, .int .i64 0, .slice none 0 0]) ?_ 4 _ rfl; refine cz ?_; refine z9q (cs := #[.int .i64 t291, .string t292, .bool t293, .int .i64 0, .int .i64 0, .int .i64 0, .int .i64 0, .bool false, .bool false, .int .i64 0, .int .i64 0, .bool false, .bool false, .int .i64 0, .slice none 0 0]) ?_ 3 _ rfl; refine cz ?_; refine z9q (cs := #[.int .i64 t291, .string t292, .bool false, .int .i64 0, .int .i64 0, .int .i64 0, .int .i64 0, .bool false, .bool false, .int .i64 0, .int .i64 0, .bool false, .bool false, .int .i64 0, .slice none 0 0]) ?_ 2 _ rfl; refine cz ?_; refine z9q (cs := #[.int .i64 t291, .string (⟨#[]⟩ : ByteArray), .bool false, .int .i64 0, .int .i64 0, .int .i64 0, .int .i64 0, .bool false, .bool false, .int .i64 0, .int .i64 0, .bool false, .bool false, .int .i64 0, .slice none 0 0]) ?_ 1 _ rfl; refine cz ?_; refine z9q (cs := #[.int .i64 0, .string (⟨#[]⟩ : ByteArray), .bool false, .int .i64 0, .int .i64 0, .int .i64 0, .int .i64 0, .bool false, .bool false, .int .i64 0, .int .i64 0, .bool false, .bool false, .int .i64 0, .slice none 0 0]) ?_ 0 _ rfl; (with_reducible repeat (first | refine z11q ?_ _ | refine z13q ?_ | refine z10q ?_ _)); exact BK309.out⟩
     have n3_ : Aside0 (Below w.heap.size w (((((((((((((((w11.setCell ⟨gb309, 0, none⟩ (.int .i64 t291)).setCell ⟨gb309, 1, none⟩ (.string t292)).setCell ⟨gb309, 2, none⟩ (.bool t293)).setCell ⟨gb309, 3, none⟩ (.int .i64 t294)).setCell ⟨gb309, 4, none⟩ (.int .i64 t295)).setCell ⟨gb309, 5, none⟩ (.int .i64 t296)).setCell ⟨gb309, 6, none⟩ (.int .i64 t297)).setCell ⟨gb309, 7, none⟩ (.bool t298)).setCell ⟨gb309, 8, none⟩ (.bool t299)).setCell ⟨gb309, 9, none⟩ (.int .i64 t300)).setCell ⟨gb309, 10, none⟩ (.int .i64 t301)).setCell ⟨gb309, 11, none⟩ (.bool t302)).setCell ⟨gb309, 12, none⟩ (.bool t303)).setCell ⟨gb309, 13, none⟩ (.int .i64 t304)).setCell ⟨gb309, 14, none⟩ (.slice Ao14 t305.length co14))) := ⟨by repeat (first | (with_reducible first | exact HB.out | apply z2q | apply z3q | apply z4q | refine z8q ?_ GE290.out | refine z8q ?_ GE309.out) | exact HB.out)⟩
     (try clear HO307)
     (try clear BK290)
     (try clear BK309)
     (try clear HB)
     generalize (((((((((((((((w11.setCell ⟨gb309, 0, none⟩ (.int .i64 t291)).setCell ⟨gb309, 1, none⟩ (.string t292)).setCell ⟨gb309, 2, none⟩ (.bool t293)).setCell ⟨gb309, 3, none⟩ (.int .i64 t294)).setCell ⟨gb309, 4, none⟩ (.int .i64 t295)).setCell ⟨gb309, 5, none⟩ (.int .i64 t296)).setCell ⟨gb309, 6, none⟩ (.int .i64 t297)).setCell ⟨gb309, 7, none⟩ (.bool t298)).setCell ⟨gb309, 8, none⟩ (.bool t299)).setCell ⟨gb309, 9, none⟩ (.int .i64 t300)).setCell ⟨gb309, 10, none⟩ (.int .i64 t301)).setCell ⟨gb309, 11, none⟩ (.bool t302)).setCell ⟨gb309, 12, none⟩ (.bool t303)).setCell ⟨gb309, 13, none⟩ (.int .i64 t304)).setCell ⟨gb309, 14, none⟩ (.slice Ao14 t305.length co14)) = w15 at n0_ n1_ n2_ n3_ ⊢
     have HO307 := n0_
     have BK290 := n1_
     have BK309 := n2_
     have HB := n3_
     clear n0_ n1_ n2_ n3_
     have n0_ := Aside0.mk (Kd.R_drew HO307.out)
     have n1_ := Aside0.mk (z13q BK290.out)
     have n2_ := Aside0.mk (z13q BK309.out)
     have n3_ := Aside0.mk (z4q HB.out)
     clear HO307
     clear BK290
     clear BK309
     clear HB
     have HO307 := n0_
     have BK290 := n1_
     have BK309 := n2_
     have HB := n3_
     clear n0_ n1_ n2_ n3_
     refine start_ (n := 11) (S := fun w' => w'.cell? ⟨gb309, 0, none⟩ = some (.int .i64 t291) ∧ w'.cell? ⟨gb309, 1, none⟩ = some (.string t292) ∧ w'.cell? ⟨gb309, 2, none⟩ = some (.bool t293) ∧ w'.cell? ⟨gb309, 3, none⟩ = some (.int .i64 t294) ∧ w'.cell? ⟨gb309, 4, none⟩ = some (.int .i64 t295) ∧ w'.cell? ⟨gb309, 5, none⟩ = some (.int .i64 t296) ∧ w'.cell? ⟨gb309, 6, none⟩ = some (.int .i64 t297) ∧ w'.cell? ⟨gb309, 7, none⟩ = some (.bool t298) ∧ w'.cell? ⟨gb309, 8, none⟩ = some (.bool t299) ∧ w'.cell? ⟨gb309, 9, none⟩ = some (.int .i64 t300) ∧ w'.cell? ⟨gb309, 10, none⟩ = some (.int .i64 t301) ∧ w'.cell? ⟨gb309, 11, none⟩ = some (.bool t302) ∧ w'.cell? ⟨gb309, 12, none⟩ = some (.bool t303) ∧ w'.cell? ⟨gb309, 13, none⟩ = some (.int .i64 t304) ∧ w'.cell? ⟨gb309, 14, none⟩ = some (.slice Ao14 t305.length co14)) (ds := []) bt9_0 (by kernel_rfl) rfl rfl ⟨(z1q BK309.out 0).trans rfl, (z1q BK309.out 1).trans rfl, (z1q BK309.out 2).trans rfl, (z1q BK309.out 3).trans rfl, (z1q BK309.out 4).trans rfl, (z1q BK309.out 5).trans rfl, (z1q BK309.out 6).trans rfl, (z1q BK309.out 7).trans rfl, (z1q BK309.out 8).trans rfl, (z1q BK309.out 9).trans rfl, (z1q BK309.out 10).trans rfl, (z1q BK309.out 11).trans rfl, (z1q BK309.out 12).trans rfl, (z1q BK309.out 13).trans rfl, (z1q BK309.out 14).trans rfl⟩ (fun hHeld => ?_); refine with_tabW spec_l4Read.tab4 spec_l4Read.bits4 (fun HT_ HW_ => ?_)
     generalize w15.drew = w16 at HO307 BK290 BK309 HB hHeld ⊢
     refine pure_ (i := 1) (N := some 21) (v := ?_) (a' := ?_) bt9_1 rfl rfl (any_of HT_.out (by kernel_rfl)) (fun _ _ _ h => h) (Or.inl ⟨by rfl, ?_⟩) ?_ ?_
     rotate_left
     ·intro w'
      go_simp
      with_reducible rfl
     rotate_left
     ·simp only [Act.put, setIfInBounds_toArray, set_cons_zero, set_cons_succ, i64_w, i32_w]
      rfl
     refine pure_ (i := 2) (N := some 22) (v := ?_) (a' := ?_) bt9_2 rfl rfl (any_of HT_.out (by kernel_rfl)) (fun _ _ _ h => h) (Or.inl ⟨by rfl, ?_⟩) ?_ ?_
     rotate_left
     ·intro w'
      go_simp
      with_reducible rfl
     rotate_left
     ·simp only [Act.put, setIfInBounds_toArray, set_cons_zero, set_cons_succ, i64_w, i32_w]
      rfl
     refine pure_ (i := 3) (N := some 23) (v := ?_) (a' := ?_) bt9_3 rfl rfl (any_of HT_.out (by kernel_rfl)) (fun _ _ _ h => h) (Or.inl ⟨by rfl, ?_⟩) ?_ ?_
     rotate_left
     ·intro w'
      go_simp
      with_reducible rfl
     rotate_left
     ·simp only [Act.put, setIfInBounds_toArray, set_cons_zero, set_cons_succ, i64_w, i32_w]
      rfl
     refine pure_ (i := 4) (N := some 24) (v := ?_) (a' := ?_) bt9_4 rfl rfl (any_of HT_.out (by kernel_rfl)) (fun _ _ _ h => h) (Or.inl ⟨by rfl, ?_⟩) ?_ ?_
     rotate_left
     ·intro w'
      go_simp
      with_reducible rfl
     rotate_left
     ·simp only [Act.put, setIfInBounds_toArray, set_cons_zero, set_cons_succ, i64_w, i32_w]
      rfl
     refine pure_ (i := 5) (N := some 25) (v := ?_) (a' := ?_) bt9_5 rfl rfl (any_of HT_.out (by kernel_rfl)) (fun _ _ _ h => h) (Or.inl ⟨by rfl, ?_⟩) ?_ ?_
     rotate_left
     ·intro w'
      go_simp
      with_reducible rfl
     rotate_left
     ·simp only [Act.put, setIfInBounds_toArray, set_cons_zero, set_cons_succ, i64_w, i32_w]
      rfl
     refine take_ (i := 0) (N := some 20) (v := ?_) (a' := ?_) bt9_6 rfl rfl (take_ofW HT_.out HW_.out (by kernel_rfl)) (fun _ _ _ h => h) (Or.inl ⟨by rfl, ?_⟩) hHeld ?_ ?_
     rotate_left
     ·rintro w' ⟨s0, s1, s2, s3, s4, s5, s6, s7, s8, s9, s10, s11, s12, s13, s14⟩
      go_simp
      with_reducible rfl
     rotate_left
     ·simp only [Act.put, setIfInBounds_toArray, set_cons_zero, set_cons_succ, i64_w, i32_w]
      rfl
     refine take_ (i := 6) (N := some 26) (v := ?_) (a' := ?_) bt9_7 rfl rfl (take_ofW HT_.out HW_.out (by kernel_rfl)) (fun _ _ _ h => h) (Or.inl ⟨by rfl, ?_⟩) hHeld ?_ ?_
     rotate_left
     ·rintro w' ⟨s0, s1, s2, s3, s4, s5, s6, s7, s8, s9, s10, s11, s12, s13, s14⟩
      go_simp
      with_reducible rfl
     rotate_left
     ·simp only [Act.put, setIfInBounds_toArray, set_cons_zero, set_cons_succ, i64_w, i32_w]
      rfl
     refine one_ (i := 7) (N := some 27) bt9_8 rfl rfl (one_of HT_.out (by kernel_rfl)) (by decide) (fun K hK => ?_)
     refine goes_ Tryz.func71 (by kernel_rfl) rfl #[.agg #[.int .i64 t291, .string t292, .bool t293, .int .i64 t294, .int .i64 t295, .int .i64 t296, .int .i64 t297, .bool t298, .bool t299, .int .i64 t300, .int .i64 t301, .bool t302, .bool t303, .int .i64 t304, .slice Ao14 t305.length co14]] (by rfl) rfl rfl (by (try simp only [map_toArray, map_cons, map_nil]); first | done | rfl | (simp only [length_drop, length_take]; rfl)) ?_
     with_reducible refine (spec_l4Good.calls kj1 t291 t292 t293 t294 t295 t296 t297 t298 t299 t300 t301 t302 t303 t304 _ _ t305 t310 _ ?side1 ?side2 A9.out).mono ?_
     (case side1 => repeat (first | exact (Kd.R_reads' HO307.out).2.2 | (with_reducible refine Kd.C_alloc ?_ _) | (with_reducible refine Kd.C_drewN ?_ _) | (with_reducible refine Kd.C_drew ?_)))
     (case side2 => exact (Kd.R_reads' HO307.out).2.1)
     rintro e w17 ⟨rfl, hb⟩
     refine ⟨_, rfl, ?_⟩
     have n0_ := Aside0.mk (Kd.R_below (ro HO307.out) hb)
     have n1_ := Aside0.mk (z15q (g := gb290) (o := .cells #[.int .i64 0, .string (⟨#[]⟩ : ByteArray), .bool false, .int .i64 0, .int .i64 0, .int .i64 0, .int .i64 0, .bool false, .bool false, .int .i64 0, .int .i64 0, .bool false, .bool false, .int .i64 0, .slice none 0 0] 70 (0, 0)) (cy BK290.out) hb)
     have n2_ := Aside0.mk (z15q (cy BK309.out) hb)
     have n3_ := Aside0.mk (z6q (ibh HB.out) hb)
     clear HO307
     clear BK290
     clear BK309
     clear HB
     have HO307 := n0_
     have BK290 := n1_
     have BK309 := n2_
     have HB := n3_
     clear n0_ n1_ n2_ n3_
     (try clear hb)
     (try clear hb2)
     (try clear hk)
     (try clear hi)
     refine hK.out _ _ ⟨(z1q BK309.out 0).trans rfl, (z1q BK309.out 1).trans rfl, (z1q BK309.out 2).trans rfl, (z1q BK309.out 3).trans rfl, (z1q BK309.out 4).trans rfl, (z1q BK309.out 5).trans rfl, (z1q BK309.out 6).trans rfl, (z1q BK309.out 7).trans rfl, (z1q BK309.out 8).trans rfl, (z1q BK309.out 9).trans rfl, (z1q BK309.out 10).trans rfl, (z1q BK309.out 11).trans rfl, (z1q BK309.out 12).trans rfl, (z1q BK309.out 13).trans rfl, (z1q BK309.out 14).trans rfl⟩ (fun hHeld => ?_)
     clear hK K
     refine norm_ (a' := ?_) ?_ ?_
     rotate_left
     ·show Act.put _ (some 27) _ = _
      simp only [Act.put, setIfInBounds_toArray, set_cons_zero, set_cons_succ, i64_w, i32_w]
      rfl
     refine pure_ (i := 8) (N := some 28) (v := ?_) (a' := ?_) bt9_9 rfl rfl (any_of HT_.out (by kernel_rfl)) (fun _ _ _ h => h) (Or.inl ⟨by rfl, ?_⟩) ?_ ?_
     rotate_left
     ·intro w'
      go_simp
      with_reducible rfl
     rotate_left
     ·simp only [Act.put, setIfInBounds_toArray, set_cons_zero, set_cons_succ, i64_w, i32_w]
      rfl
     refine one_ (i := 9) (N := none) bt9_10 rfl rfl (one_of HT_.out (by kernel_rfl)) (by decide) (fun K hK => ?_)
     have hs18 : w17.cell? ⟨gb290, 0, none⟩ = some (.int .i64 0) := (z1q BK290.out 0).trans rfl
     have hfs18 := z0q BK290.out 0
     have hns18_1 := NB309_290.out
     have hms18_1 := NB290_309.out
     have hs19 : w17.cell? ⟨gb290, 1, none⟩ = some (.string (⟨#[]⟩ : ByteArray)) := (z1q BK290.out 1).trans rfl
     have hfs19 := z0q BK290.out 1
     have hns19_1 := NB309_290.out
     have hms19_1 := NB290_309.out
     have hs20 : w17.cell? ⟨gb290, 2, none⟩ = some (.bool false) := (z1q BK290.out 2).trans rfl
     have hfs20 := z0q BK290.out 2
     have hns20_1 := NB309_290.out
     have hms20_1 := NB290_309.out
     have hs21 : w17.cell? ⟨gb290, 3, none⟩ = some (.int .i64 0) := (z1q BK290.out 3).trans rfl
     have hfs21 := z0q BK290.out 3
     have hns21_1 := NB309_290.out
     have hms21_1 := NB290_309.out
     have hs22 : w17.cell? ⟨gb290, 4, none⟩ = some (.int .i64 0) := (z1q BK290.out 4).trans rfl
     have hfs22 := z0q BK290.out 4
     have hns22_1 := NB309_290.out
     have hms22_1 := NB290_309.out
     have hs23 : w17.cell? ⟨gb290, 5, none⟩ = some (.int .i64 0) := (z1q BK290.out 5).trans rfl
     have hfs23 := z0q BK290.out 5
     have hns23_1 := NB309_290.out
     have hms23_1 := NB290_309.out
     have hs24 : w17.cell? ⟨gb290, 6, none⟩ = some (.int .i64 0) := (z1q BK290.out 6).trans rfl
     have hfs24 := z0q BK290.out 6
     have hns24_1 := NB309_290.out
     have hms24_1 := NB290_309.out
     have hs25 : w17.cell? ⟨gb290, 7, none⟩ = some (.bool false) := (z1q BK290.out 7).trans rfl
     have hfs25 := z0q BK290.out 7
     have hns25_1 := NB309_290.out
     have hms25_1 := NB290_309.out
     have hs26 : w17.cell? ⟨gb290, 8, none⟩ = some (.bool false) := (z1q BK290.out 8).trans rfl
     have hfs26 := z0q BK290.out 8
     have hns26_1 := NB309_290.out
     have hms26_1 := NB290_309.out
     have hs27 : w17.cell? ⟨gb290, 9, none⟩ = some (.int .i64 0) := (z1q BK290.out 9).trans rfl
     have hfs27 := z0q BK290.out 9
     have hns27_1 := NB309_290.out
     have hms27_1 := NB290_309.out
     have hs28 : w17.cell? ⟨gb290, 10, none⟩ = some (.int .i64 0) := (z1q BK290.out 10).trans rfl
     have hfs28 := z0q BK290.out 10
     have hns28_1 := NB309_290.out
     have hms28_1 := NB290_309.out
     have hs29 : w17.cell? ⟨gb290, 11, none⟩ = some (.bool false) := (z1q BK290.out 11).trans rfl
     have hfs29 := z0q BK290.out 11
     have hns29_1 := NB309_290.out
     have hms29_1 := NB290_309.out
     have hs30 : w17.cell? ⟨gb290, 12, none⟩ = some (.bool false) := (z1q BK290.out 12).trans rfl
     have hfs30 := z0q BK290.out 12
     have hns30_1 := NB309_290.out
     have hms30_1 := NB290_309.out
     have hs31 : w17.cell? ⟨gb290, 13, none⟩ = some (.int .i64 0) := (z1q BK290.out 13).trans rfl
     have hfs31 := z0q BK290.out 13
     have hns31_1 := NB309_290.out
     have hms31_1 := NB290_309.out
     have hs32 : w17.cell? ⟨gb290, 14, none⟩ = some (.slice none 0 0) := (z1q BK290.out 14).trans rfl
     have hfs32 := z0q BK290.out 14
     have hns32_1 := NB309_290.out
     have hms32_1 := NB290_309.out
     refine skip_ (w1 := ?_) (by rfl) rfl ?_ ?_
     rotate_left
     ·go_simp
      rfl
     refine hK.out _ _ ⟨(by (iterate 15 refine (z5q (p := ⟨gb290, _, none⟩) NB309_290.out _).trans ?_); exact hHeld.1), (by (iterate 15 refine (z5q (p := ⟨gb290, _, none⟩) NB309_290.out _).trans ?_); exact hHeld.2.1), (by (iterate 15 refine (z5q (p := ⟨gb290, _, none⟩) NB309_290.out _).trans ?_); exact hHeld.2.2.1), (by (iterate 15 refine (z5q (p := ⟨gb290, _, none⟩) NB309_290.out _).trans ?_); exact hHeld.2.2.2.1), (by (iterate 15 refine (z5q (p := ⟨gb290, _, none⟩) NB309_290.out _).trans ?_); exact hHeld.2.2.2.2.1), (by (iterate 15 refine (z5q (p := ⟨gb290, _, none⟩) NB309_290.out _).trans ?_); exact hHeld.2.2.2.2.2.1), (by (iterate 15 refine (z5q (p := ⟨gb290, _, none⟩) NB309_290.out _).trans ?_); exact hHeld.2.2.2.2.2.2.1), (by (iterate 15 refine (z5q (p := ⟨gb290, _, none⟩) NB309_290.out _).trans ?_); exact hHeld.2.2.2.2.2.2.2.1), (by (iterate 15 refine (z5q (p := ⟨gb290, _, none⟩) NB309_290.out _).trans ?_); exact hHeld.2.2.2.2.2.2.2.2.1), (by (iterate 15 refine (z5q (p := ⟨gb290, _, none⟩) NB309_290.out _).trans ?_); exact hHeld.2.2.2.2.2.2.2.2.2.1), (by (iterate 15 refine (z5q (p := ⟨gb290, _, none⟩) NB309_290.out _).trans ?_); exact hHeld.2.2.2.2.2.2.2.2.2.2.1), (by (iterate 15 refine (z5q (p := ⟨gb290, _, none⟩) NB309_290.out _).trans ?_); exact hHeld.2.2.2.2.2.2.2.2.2.2.2.1), (by (iterate 15 refine (z5q (p := ⟨gb290, _, none⟩) NB309_290.out _).trans ?_); exact hHeld.2.2.2.2.2.2.2.2.2.2.2.2.1), (by (iterate 15 refine (z5q (p := ⟨gb290, _, none⟩) NB309_290.out _).trans ?_); exact hHeld.2.2.2.2.2.2.2.2.2.2.2.2.2.1), (by (iterate 15 refine (z5q (p := ⟨gb290, _, none⟩) NB309_290.out _).trans ?_); exact hHeld.2.2.2.2.2.2.2.2.2.2.2.2.2.2)⟩ (fun hHeld => ?_)
     clear hK K
     refine pure_ (i := 10) (N := some 3) (v := ?_) (a' := ?_) bt9_11 rfl rfl (any_of HT_.out (by kernel_rfl)) (fun _ _ _ h => h) (Or.inl ⟨by rfl, ?_⟩) ?_ ?_
     rotate_left
     ·intro w'
      go_simp
      with_reducible rfl
     rotate_left
     ·simp only [Act.put, setIfInBounds_toArray, set_cons_zero, set_cons_succ, i64_w, i32_w]
      rfl
     refine done_ (done_of HT_.out (by kernel_rfl)) ?_
     try go_wp2
     refine bodyPost_ret (results_ct rfl _ _ gb290 70 #[.int .i64 t291, .string t292, .bool t293, .int .i64 t294, .int .i64 t295, .int .i64 t296, .int .i64 t297, .bool t298, .bool t299, .int .i64 t300, .int .i64 t301, .bool t302, .bool t303, .int .i64 t304, .slice Ao14 t305.length co14] (0, 0) _ rfl (by refine cz ?_; refine z9q (cs := #[.int .i64 t291, .string t292, .bool t293, .int .i64 t294, .int .i64 t295, .int .i64 t296, .int .i64 t297, .bool t298, .bool t299, .int .i64 t300, .int .i64 t301, .bool t302, .bool t303, .int .i64 t304, .slice none 0 0]) ?_ 14 _ rfl; refine cz ?_; refine z9q (cs := #[.int .i64 t291, .string t292, .bool t293, .int .i64 t294, .int .i64 t295, .int .i64 t296, .int .i64 t297, .bool t298, .bool t299, .int .i64 t300, .int .i64 t301, .bool t302, .bool t303, .int .i64 0, .slice none 0 0]) ?_ 13 _ rfl; refine cz ?_; refine z9q (cs := #[.int .i64 t291, .string t292, .bool t293, .int .i64 t294, .int .i64 t295, .int .i64 t296, .int .i64 t297, .bool t298, .bool t299, .int .i64 t300, .int .i64 t301, .bool t302, .bool false, .int .i64 0, .slice none 0 0]) ?_ 12 _ rfl; refine cz ?_; refine z9q (cs := #[.int .i64 t291, .string t292, .bool t293, .int .i64 t294, .int .i64 t295, .int .i64 t296, .int .i64 t297, .bool t298, .bool t299, .int .i64 t300, .int .i64 t301, .bool false, .bool false, .int .i64 0, .slice none 0 0]) ?_ 11 _ rfl; refine cz ?_; refine z9q (cs := #[.int .i64 t291, .string t292, .bool t293, .int .i64 t294, .int .i64 t295, .int .i64 t296, .int .i64 t297, .bool t298, .bool t299, .int .i64 t300, .int .i64 0, .bool false, .bool false, .int .i64 0, .slice none 0 0]) ?_ 10 _ rfl; refine cz ?_; refine z9q (cs := #[.int .i64 t291, .string t292, .bool t293, .int .i64 t294, .int .i64 t295, .int .i64 t296, .int .i64 t297, .bool t298, .bool t299, .int .i64 0, .int .i64 0, .bool false, .bool false, .int .i64 0, .slice none 0 0]) ?_ 9 _ rfl; refine cz ?_; refine z9q (cs := #[.int .i64 t291, .string t292, .bool t293, .int .i64 t294, .int .i64 t295, .int .i64 t296, .int .i64 t297, .bool t298, .bool false, .int .i64 0, .int .i64 0, .bool false, .bool false, .int .i64 0, .slice none 0 0]) ?_ 8 _ rfl; refine cz ?_; refine z9q (cs := #[.int .i64 t291, .string t292, .bool t293, .int .i64 t294, .int .i64 t295, .int .i64 t296, .int .i64 t297, .bool false, .bool false, .int .i64 0, .int .i64 0, .bool false, .bool false, .int .i64 0, .slice none 0 0]) ?_ 7 _ rfl; refine cz ?_; refine z9q (cs := #[.int .i64 t291, .string t292, .bool t293, .int .i64 t294, .int .i64 t295, .int .i64 t296, .int .i64 0, .bool false, .bool false, .int .i64 0, .int .i64 0, .bool false, .bool false, .int .i64 0, .slice none 0 0]) ?_ 6 _ rfl; refine cz ?_; refine z9q (cs := #[.int .i64 t291, .string t292, .bool t293, .int .i64 t294, .int .i64 t295, .int .i64 0, .int .i64 0, .bool false, .bool false, .int .i64 0, .int .i64 0, .bool false, .bool false, .int .i64 0, .slice none 0 0]) ?_ 5 _ rfl; refine cz ?_; refine z9q (cs := #[.int .i64 t291, .string t292, .bool t293, .int .i64 t294, .int .i64 0, .int .i64 0, .int .i64 0, .bool false, .bool false, .int .i64 0, .int .i64 0, .bool false, .bool false, .int .i64 0, .slice none 0 0]) ?_ 4 _ rfl; refine cz ?_; refine z9q (cs := #[.int .i64 t291, .string t292, .bool t293, .int .i64 0, .int .i64 0, .int .i64 0, .int .i64 0, .bool false, .bool false, .int .i64 0, .int .i64 0, .bool false, .bool false, .int .i64 0, .slice none 0 0]) ?_ 3 _ rfl; refine cz ?_; refine z9q (cs := #[.int .i64 t291, .string t292, .bool false, .int .i64 0, .int .i64 0, .int .i64 0, .int .i64 0, .bool false, .bool false, .int .i64 0, .int .i64 0, .bool false, .bool false, .int .i64 0, .slice none 0 0]) ?_ 2 _ rfl; refine cz ?_; refine z9q (cs := #[.int .i64 t291, .string (⟨#[]⟩ : ByteArray), .bool false, .int .i64 0, .int .i64 0, .int .i64 0, .int .i64 0, .bool false, .bool false, .int .i64 0, .int .i64 0, .bool false, .bool false, .int .i64 0, .slice none 0 0]) ?_ 1 _ rfl; refine cz ?_; refine z9q (cs := #[.int .i64 0, .string (⟨#[]⟩ : ByteArray), .bool false, .int .i64 0, .int .i64 0, .int .i64 0, .int .i64 0, .bool false, .bool false, .int .i64 0, .int .i64 0, .bool false, .bool false, .int .i64 0, .slice none 0 0]) ?_ 0 _ rfl; exact cy BK290.out) Tryz.underlying70 rfl (by kernel_rfl)) rfl ?_
     exact ⟨_, by first | rfl | (simp [errW_none, errW_some] <;> rfl) | (simp [*, errW_none, errW_some] <;> rfl), by (with_reducible repeat (first | apply Kd.R_alloc | apply Kd.R_drewN | apply Kd.R_drew)); exact Kd.R_mono (Kd.R_far (p := ⟨gb290, 14, none⟩) (Kd.R_far (p := ⟨gb290, 13, none⟩) (Kd.R_far (p := ⟨gb290, 12, none⟩) (Kd.R_far (p := ⟨gb290, 11, none⟩) (Kd.R_far (p := ⟨gb290, 10, none⟩) (Kd.R_far (p := ⟨gb290, 9, none⟩) (Kd.R_far (p := ⟨gb290, 8, none⟩) (Kd.R_far (p := ⟨gb290, 7, none⟩) (Kd.R_far (p := ⟨gb290, 6, none⟩) (Kd.R_far (p := ⟨gb290, 5, none⟩) (Kd.R_far (p := ⟨gb290, 4, none⟩) (Kd.R_far (p := ⟨gb290, 3, none⟩) (Kd.R_far (p := ⟨gb290, 2, none⟩) (Kd.R_far (p := ⟨gb290, 1, none⟩) (Kd.R_far (p := ⟨gb290, 0, none⟩) (Kd.R_mono HO307.out (fun k_ hk => (⟨hk, hk.1⟩ : _ ∧ k_ ≠ gb290))) (fun _ hk => hk.2) (.int .i64 t291)) (fun _ hk => hk.2) (.string t292)) (fun _ hk => hk.2) (.bool t293)) (fun _ hk => hk.2) (.int .i64 t294)) (fun _ hk => hk.2) (.int .i64 t295)) (fun _ hk => hk.2) (.int .i64 t296)) (fun _ hk => hk.2) (.int .i64 t297)) (fun _ hk => hk.2) (.bool t298)) (fun _ hk => hk.2) (.bool t299)) (fun _ hk => hk.2) (.int .i64 t300)) (fun _ hk => hk.2) (.int .i64 t301)) (fun _ hk => hk.2) (.bool t302)) (fun _ hk => hk.2) (.bool t303)) (fun _ hk => hk.2) (.int .i64 t304)) (fun _ hk => hk.2) (.slice Ao14 t305.length co14)) (fun _ hk => trivial), by repeat (first | (with_reducible first | exact HB.out | apply z2q | apply z3q | apply z4q | refine z8q ?_ GE290.out | refine z8q ?_ GE309.out) | exact HB.out)⟩
    ·rw [if_neg c8] at H
     have c8b0 : (t308 == (l0.length : Int)) = false := beq_eq_false_iff_ne.mpr c8
     have c8b1 : (t308 != (l0.length : Int)) = true := bne_iff_ne.mpr c8
     simp only [Option.some.injEq, Prod.mk.injEq] at H
     obtain ⟨rfl, rfl, rfl, rfl, rfl, rfl, rfl, rfl, rfl, rfl, rfl, rfl, rfl, rfl, rfl, rfl⟩ := H
     try go_wp2_with (first | ((with_reducible refine z14q (f := 70) rfl ?_); refine z20q (some 17) rfl rfl Tryz.func70 (by kernel_rfl) rfl #[.slice A0 l0.length c0, .int .i64 0, .int .i64 0] rfl (by (try simp only [map_toArray, map_cons, map_nil]); first | done | rfl | (simp only [length_drop, length_take]; rfl)) ?_; (with_reducible refine (spec_l4Take.calls kj1 _ _ l0 0 0 t291 t292 t293 t294 t295 t296 t297 t298 t299 t300 t301 t302 t303 t304 t305 t308 _ ?side1 ?side2 A7.out).mono ?_); (case side1 => exact Kd.C_below HR0.out ib); (case side2 => exact HC0.out); rintro e w33 ⟨v306, rfl, ho0, hb⟩; refine ⟨_, rfl, ?_⟩; have n0_ := Aside0.mk (Kd.R_lower (Kd.R_newB ho0 (g := gb290) (o := .cells #[.int .i64 0, .string (⟨#[]⟩ : ByteArray), .bool false, .int .i64 0, .int .i64 0, .int .i64 0, .int .i64 0, .bool false, .bool false, .int .i64 0, .int .i64 0, .bool false, .bool false, .int .i64 0, .slice none 0 0] 70 (0, 0)) (cy BK290.out)) (z7q (ibh HB.out))); have n1_ := Aside0.mk (z15q (g := gb290) (o := .cells #[.int .i64 0, .string (⟨#[]⟩ : ByteArray), .bool false, .int .i64 0, .int .i64 0, .int .i64 0, .int .i64 0, .bool false, .bool false, .int .i64 0, .int .i64 0, .bool false, .bool false, .int .i64 0, .slice none 0 0] 70 (0, 0)) (cy BK290.out) hb); have n2_ := Aside0.mk (z6q (ibh HB.out) hb); clear BK290; clear HB; have HO307 := n0_; have BK290 := n1_; have HB := n2_; clear n0_ n1_ n2_; (try clear hb); (try clear hb2); (try clear hk); (try clear hi); (try clear ho0)) | ((with_reducible refine z17q (N := 4) rfl ?_); (try (refine gate_guard (by rfl) ?_; dsimp only)); refine z16q ?hg (N := 4) ?hd (cs := #[.int .i64 0, .string (⟨#[]⟩ : ByteArray), .bool false, .int .i64 0, .int .i64 0, .int .i64 0, .int .i64 0, .bool false, .bool false, .int .i64 0, .int .i64 0, .bool false, .bool false, .int .i64 0, .slice none 0 0]) (t := 70) ?hr ?_; (case hd => rfl); (case hg => rfl); (case hr => first | (go_simp; done) | (go_simp; rfl)); intro gb309 hg w34 hbox hb; have n0_ := Aside0.mk (Kd.R_below (Kd.R_elderB (ro HO307.out) gb309 (Nat.le_of_eq hg.symm)) hb); have n1_ := Aside0.mk (z15q (g := gb290) (o := .cells #[.int .i64 0, .string (⟨#[]⟩ : ByteArray), .bool false, .int .i64 0, .int .i64 0, .int .i64 0, .int .i64 0, .bool false, .bool false, .int .i64 0, .int .i64 0, .bool false, .bool false, .int .i64 0, .slice none 0 0] 70 (0, 0)) (cy BK290.out) hb); have n2_ := Aside0.mk (z6q (ibh HB.out) hb); have n3_ := Aside0.mk (hbox); have n4_ := Aside0.mk ((by rw [hg]; exact (z7q (ibh HB.out)) : w.heap.size ≤ gb309)); have n5_ := Aside0.mk ((by rw [hg]; exact (z7q (ibh HB.out)) : w.heap.size ≤ gb309)); have n6_ := Aside0.mk ((by rw [hg]; exact Nat.ne_of_lt (z21q (g := gb290) (o := .cells #[.int .i64 0, .string (⟨#[]⟩ : ByteArray), .bool false, .int .i64 0, .int .i64 0, .int .i64 0, .int .i64 0, .bool false, .bool false, .int .i64 0, .int .i64 0, .bool false, .bool false, .int .i64 0, .slice none 0 0] 70 (0, 0)) (cy BK290.out)) : gb290 ≠ gb309)); have n7_ := Aside0.mk ((by rw [hg]; exact Nat.ne_of_gt (z21q (g := gb290) (o := .cells #[.int .i64 0, .string (⟨#[]⟩ : ByteArray), .bool false, .int .i64 0, .int .i64 0, .int .i64 0, .int .i64 0, .bool false, .bool false, .int .i64 0, .int .i64 0, .bool false, .bool false, .int .i64 0, .slice none 0 0] 70 (0, 0)) (cy BK290.out)) : gb309 ≠ gb290)); clear HO307; clear BK290; clear HB; have HO307 := n0_; have BK290 := n1_; have HB := n2_; have BK309 := n3_; have GW309 := n4_; have GE309 := n5_; have NB290_309 := n6_; have NB309_290 := n7_; clear n0_ n1_ n2_ n3_ n4_ n5_ n6_ n7_; clear hb hbox hg; have hnb35 := NB309_290.out; have hnc35 := NB290_309.out; obtain ⟨hcz36_0, hcz36_1, hcz36_2, hcz36_3, hcz36_4, hcz36_5, hcz36_6, hcz36_7, hcz36_8, hcz36_9, hcz36_10, hcz36_11, hcz36_12, hcz36_13, hcz36_14, hfz36_0, hfz36_1, hfz36_2, hfz36_3, hfz36_4, hfz36_5, hfz36_6, hfz36_7, hfz36_8, hfz36_9, hfz36_10, hfz36_11, hfz36_12, hfz36_13, hfz36_14⟩ := cr15 (w := w34) (g := gb309) BK309.out; obtain ⟨Ao37, co37, eo37⟩ := Kd.R_slice HO307.out; subst eo37))
     have n0_ : Aside0 (Kd.R k70 70 (((((((((((((((w34.setCell ⟨gb309, 0, none⟩ (.int .i64 t291)).setCell ⟨gb309, 1, none⟩ (.string t292)).setCell ⟨gb309, 2, none⟩ (.bool t293)).setCell ⟨gb309, 3, none⟩ (.int .i64 t294)).setCell ⟨gb309, 4, none⟩ (.int .i64 t295)).setCell ⟨gb309, 5, none⟩ (.int .i64 t296)).setCell ⟨gb309, 6, none⟩ (.int .i64 t297)).setCell ⟨gb309, 7, none⟩ (.bool t298)).setCell ⟨gb309, 8, none⟩ (.bool t299)).setCell ⟨gb309, 9, none⟩ (.int .i64 t300)).setCell ⟨gb309, 10, none⟩ (.int .i64 t301)).setCell ⟨gb309, 11, none⟩ (.bool t302)).setCell ⟨gb309, 12, none⟩ (.bool t303)).setCell ⟨gb309, 13, none⟩ (.int .i64 t304)).setCell ⟨gb309, 14, none⟩ (.slice Ao37 t305.length co37)) w.heap.size (fun k_ => k_ ≠ gb290 ∧ k_ ≠ gb309) (.slice Ao37 t305.length co37) t305) := ⟨by (with_reducible repeat (first | apply Kd.R_alloc | apply Kd.R_drewN | apply Kd.R_drew)); exact Kd.R_mono (Kd.R_far (p := ⟨gb309, 14, none⟩) (Kd.R_far (p := ⟨gb309, 13, none⟩) (Kd.R_far (p := ⟨gb309, 12, none⟩) (Kd.R_far (p := ⟨gb309, 11, none⟩) (Kd.R_far (p := ⟨gb309, 10, none⟩) (Kd.R_far (p := ⟨gb309, 9, none⟩) (Kd.R_far (p := ⟨gb309, 8, none⟩) (Kd.R_far (p := ⟨gb309, 7, none⟩) (Kd.R_far (p := ⟨gb309, 6, none⟩) (Kd.R_far (p := ⟨gb309, 5, none⟩) (Kd.R_far (p := ⟨gb309, 4, none⟩) (Kd.R_far (p := ⟨gb309, 3, none⟩) (Kd.R_far (p := ⟨gb309, 2, none⟩) (Kd.R_far (p := ⟨gb309, 1, none⟩) (Kd.R_far (p := ⟨gb309, 0, none⟩) (Kd.R_mono HO307.out (fun k_ hk => (⟨hk, hk.2⟩ : _ ∧ k_ ≠ gb309))) (fun _ hk => hk.2) (.int .i64 t291)) (fun _ hk => hk.2) (.string t292)) (fun _ hk => hk.2) (.bool t293)) (fun _ hk => hk.2) (.int .i64 t294)) (fun _ hk => hk.2) (.int .i64 t295)) (fun _ hk => hk.2) (.int .i64 t296)) (fun _ hk => hk.2) (.int .i64 t297)) (fun _ hk => hk.2) (.bool t298)) (fun _ hk => hk.2) (.bool t299)) (fun _ hk => hk.2) (.int .i64 t300)) (fun _ hk => hk.2) (.int .i64 t301)) (fun _ hk => hk.2) (.bool t302)) (fun _ hk => hk.2) (.bool t303)) (fun _ hk => hk.2) (.int .i64 t304)) (fun _ hk => hk.2) (.slice Ao37 t305.length co37)) (fun _ hk => ⟨hk.1.1.2, hk.1.2⟩)⟩
     have n1_ : Aside0 ((((((((((((((((w34.setCell ⟨gb309, 0, none⟩ (.int .i64 t291)).setCell ⟨gb309, 1, none⟩ (.string t292)).setCell ⟨gb309, 2, none⟩ (.bool t293)).setCell ⟨gb309, 3, none⟩ (.int .i64 t294)).setCell ⟨gb309, 4, none⟩ (.int .i64 t295)).setCell ⟨gb309, 5, none⟩ (.int .i64 t296)).setCell ⟨gb309, 6, none⟩ (.int .i64 t297)).setCell ⟨gb309, 7, none⟩ (.bool t298)).setCell ⟨gb309, 8, none⟩ (.bool t299)).setCell ⟨gb309, 9, none⟩ (.int .i64 t300)).setCell ⟨gb309, 10, none⟩ (.int .i64 t301)).setCell ⟨gb309, 11, none⟩ (.bool t302)).setCell ⟨gb309, 12, none⟩ (.bool t303)).setCell ⟨gb309, 13, none⟩ (.int .i64 t304)).setCell ⟨gb309, 14, none⟩ (.slice Ao37 t305.length co37)).heap[gb290]? = some (.cells #[.int .i64 0, .string (⟨#[]⟩ : ByteArray), .bool false, .int .i64 0, .int .i64 0, .int .i64 0, .int .i64 0, .bool false, .bool false, .int .i64 0, .int .i64 0, .bool false, .bool false, .int .i64 0, .slice none 0 0] 70 (0, 0))) := ⟨by (with_reducible repeat (first | refine z11q ?_ _ | refine z13q ?_ | refine z10q ?_ _)); refine z18q ?_ NB290_309.out _; (with_reducible repeat (first | refine z11q ?_ _ | refine z13q ?_ | refine z10q ?_ _)); refine z18q ?_ NB290_309.out _; (with_reducible repeat (first | refine z11q ?_ _ | refine z13q ?_ | refine z10q ?_ _)); refine z18q ?_ NB290_309.out _; (with_reducible repeat (first | refine z11q ?_ _ | refine z13q ?_ | refine z10q ?_ _)); refine z18q ?_ NB290_309.out _; (with_reducible repeat (first | refine z11q ?_ _ | refine z13q ?_ | refine z10q ?_ _)); refine z18q ?_ NB290_309.out _; (with_reducible repeat (first | refine z11q ?_ _ | refine z13q ?_ | refine z10q ?_ _)); refine z18q ?_ NB290_309.out _; (with_reducible repeat (first | refine z11q ?_ _ | refine z13q ?_ | refine z10q ?_ _)); refine z18q ?_ NB290_309.out _; (with_reducible repeat (first | refine z11q ?_ _ | refine z13q ?_ | refine z10q ?_ _)); refine z18q ?_ NB290_309.out _; (with_reducible repeat (first | refine z11q ?_ _ | refine z13q ?_ | refine z10q ?_ _)); refine z18q ?_ NB290_309.out _; (with_reducible repeat (first | refine z11q ?_ _ | refine z13q ?_ | refine z10q ?_ _)); refine z18q ?_ NB290_309.out _; (with_reducible repeat (first | refine z11q ?_ _ | refine z13q ?_ | refine z10q ?_ _)); refine z18q ?_ NB290_309.out _; (with_reducible repeat (first | refine z11q ?_ _ | refine z13q ?_ | refine z10q ?_ _)); refine z18q ?_ NB290_309.out _; (with_reducible repeat (first | refine z11q ?_ _ | refine z13q ?_ | refine z10q ?_ _)); refine z18q ?_ NB290_309.out _; (with_reducible repeat (first | refine z11q ?_ _ | refine z13q ?_ | refine z10q ?_ _)); refine z18q ?_ NB290_309.out _; (with_reducible repeat (first | refine z11q ?_ _ | refine z13q ?_ | refine z10q ?_ _)); refine z18q ?_ NB290_309.out _; (with_reducible repeat (first | refine z11q ?_ _ | refine z13q ?_ | refine z10q ?_ _)); exact BK290.out⟩
     have n2_ : Aside0 ((((((((((((((((w34.setCell ⟨gb309, 0, none⟩ (.int .i64 t291)).setCell ⟨gb309, 1, none⟩ (.string t292)).setCell ⟨gb309, 2, none⟩ (.bool t293)).setCell ⟨gb309, 3, none⟩ (.int .i64 t294)).setCell ⟨gb309, 4, none⟩ (.int .i64 t295)).setCell ⟨gb309, 5, none⟩ (.int .i64 t296)).setCell ⟨gb309, 6, none⟩ (.int .i64 t297)).setCell ⟨gb309, 7, none⟩ (.bool t298)).setCell ⟨gb309, 8, none⟩ (.bool t299)).setCell ⟨gb309, 9, none⟩ (.int .i64 t300)).setCell ⟨gb309, 10, none⟩ (.int .i64 t301)).setCell ⟨gb309, 11, none⟩ (.bool t302)).setCell ⟨gb309, 12, none⟩ (.bool t303)).setCell ⟨gb309, 13, none⟩ (.int .i64 t304)).setCell ⟨gb309, 14, none⟩ (.slice Ao37 t305.length co37)).heap[gb309]? = some (.cells #[.int .i64 t291, .string t292, .bool t293, .int .i64 t294, .int .i64 t295, .int .i64 t296, .int .i64 t297, .bool t298, .bool t299, .int .i64 t300, .int .i64 t301, .bool t302, .bool t303, .int .i64 t304, .slice Ao37 t305.length co37] 70 (0, 0))) := ⟨by refine cz ?_; refine z9q (cs := #[.int .i64 t291, .string t292, .bool t293, .int .i64 t294, .int .i64 t295, .int .i64 t296, .int .i64 t297, .bool t298, .bool t299, .int .i64 t300, .int .i64 t301, .bool t302, .bool t303, .int .i64 t304, .slice none 0 0]) ?_ 14 _ rfl; refine cz ?_; refine z9q (cs := #[.int .i64 t291, .string t292, .bool t293, .int .i64 t294, .int .i64 t295, .int .i64 t296, .int .i64 t297, .bool t298, .bool t299, .int .i64 t300, .int .i64 t301, .bool t302, .bool t303, .int .i64 0, .slice none 0 0]) ?_ 13 _ rfl; refine cz ?_; refine z9q (cs := #[.int .i64 t291, .string t292, .bool t293, .int .i64 t294, .int .i64 t295, .int .i64 t296, .int .i64 t297, .bool t298, .bool t299, .int .i64 t300, .int .i64 t301, .bool t302, .bool false, .int .i64 0, .slice none 0 0]) ?_ 12 _ rfl; refine cz ?_; refine z9q (cs := #[.int .i64 t291, .string t292, .bool t293, .int .i64 t294, .int .i64 t295, .int .i64 t296, .int .i64 t297, .bool t298, .bool t299, .int .i64 t300, .int .i64 t301, .bool false, .bool false, .int .i64 0, .slice none 0 0]) ?_ 11 _ rfl; refine cz ?_; refine z9q (cs := #[.int .i64 t291, .string t292, .bool t293, .int .i64 t294, .int .i64 t295, .int .i64 t296, .int .i64 t297, .bool t298, .bool t299, .int .i64 t300, .int .i64 0, .bool false, .bool false, .int .i64 0, .slice none 0 0]) ?_ 10 _ rfl; refine cz ?_; refine z9q (cs := #[.int .i64 t291, .string t292, .bool t293, .int .i64 t294, .int .i64 t295, .int .i64 t296, .int .i64 t297, .bool t298, .bool t299, .int .i64 0, .int .i64 0, .bool false, .bool false, .int .i64 0, .slice none 0 0]) ?_ 9 _ rfl; refine cz ?_; refine z9q (cs := #[.int .i64 t291, .string t292, .bool t293, .int .i64 t294, .int .i64 t295, .int .i64 t296, .int .i64 t297, .bool t298, .bool false, .int .i64 0, .int .i64 0, .bool false, .bool false, .int .i64 0, .slice none 0 0]) ?_ 8 _ rfl; refine cz ?_; refine z9q (cs := #[.int .i64 t291, .string t292, .bool t293, .int .i64 t294, .int .i64 t295, .int .i64 t296, .int .i64 t297, .bool false, .bool false, .int .i64 0, .int .i64 0, .bool false, .bool false, .int .i64 0, .slice none 0 0]) ?_ 7 _ rfl; refine cz ?_; refine z9q (cs := #[.int .i64 t291, .string t292, .bool t293, .int .i64 t294, .int .i64 t295, .int .i64 t296, .int .i64 0, .bool false, .bool false, .int .i64 0, .int .i64 0, .bool false, .bool false, .int .i64 0, .slice none 0 0]) ?_ 6 _ rfl; refine cz ?_; refine z9q (cs := #[.int .i64 t291, .string t292, .bool t293, .int .i64 t294, .int .i64 t295, .int .i64 0, .int .i64 0, .bool false, .bool false, .int .i64 0, .int .i64 0, .bool false, .bool false, .int .i64 0, .slice none 0 0]) ?_ 5 _ rfl; refine cz ?_; refine z9q (cs := #[.int .i64 t291, .string t292, .bool t293, .int .i64 t294, .int .i64 0, .int .i64 0, .int .i64 0, .bool false, .bool false, .int .i64 0, .int .i64 0, .bool false, .bool false, .int .i64 0, .slice none 0 0]) ?_ 4 _ rfl; refine cz ?_; refine z9q (cs := #[.int .i64 t291, .string t292, .bool t293, .int .i64 0, .int .i64 0, .int .i64 0, .int .i64 0, .bool false, .bool false, .int .i64 0, .int .i64 0, .bool false, .bool false, .int .i64 0, .slice none 0 0]) ?_ 3 _ rfl; refine cz ?_; refine z9q (cs := #[.int .i64 t291, .string t292, .bool false, .int .i64 0, .int .i64 0, .int .i64 0, .int .i64 0, .bool false, .bool false, .int .i64 0, .int .i64 0, .bool false, .bool false, .int .i64 0, .slice none 0 0]) ?_ 2 _ rfl; refine cz ?_; refine z9q (cs := #[.int .i64 t291, .string (⟨#[]⟩ : ByteArray), .bool false, .int .i64 0, .int .i64 0, .int .i64 0, .int .i64 0, .bool false, .bool false, .int .i64 0, .int .i64 0, .bool false, .bool false, .int .i64 0, .slice none 0 0]) ?_ 1 _ rfl; refine cz ?_; refine z9q (cs := #[.int .i64 0, .string (⟨#[]⟩ : ByteArray), .bool false, .int .i64 0, .int .i64 0, .int .i64 0, .int .i64 0, .bool false, .bool false, .int .i64 0, .int .i64 0, .bool false, .bool false, .int .i64 0, .slice none 0 0]) ?_ 0 _ rfl; (with_reducible repeat (first | refine z11q ?_ _ | refine z13q ?_ | refine z10q ?_ _)); exact BK309.out⟩
     have n3_ : Aside0 (Below w.heap.size w (((((((((((((((w34.setCell ⟨gb309, 0, none⟩ (.int .i64 t291)).setCell ⟨gb309, 1, none⟩ (.string t292)).setCell ⟨gb309, 2, none⟩ (.bool t293)).setCell ⟨gb309, 3, none⟩ (.int .i64 t294)).setCell ⟨gb309, 4, none⟩ (.int .i64 t295)).setCell ⟨gb309, 5, none⟩ (.int .i64 t296)).setCell ⟨gb309, 6, none⟩ (.int .i64 t297)).setCell ⟨gb309, 7, none⟩ (.bool t298)).setCell ⟨gb309, 8, none⟩ (.bool t299)).setCell ⟨gb309, 9, none⟩ (.int .i64 t300)).setCell ⟨gb309, 10, none⟩ (.int .i64 t301)).setCell ⟨gb309, 11, none⟩ (.bool t302)).setCell ⟨gb309, 12, none⟩ (.bool t303)).setCell ⟨gb309, 13, none⟩ (.int .i64 t304)).setCell ⟨gb309, 14, none⟩ (.slice Ao37 t305.length co37))) := ⟨by repeat (first | (with_reducible first | exact HB.out | apply z2q | apply z3q | apply z4q | refine z8q ?_ GE290.out | refine z8q ?_ GE309.out) | exact HB.out)⟩
     (try clear HO307)
     (try clear BK290)
     (try clear BK309)
     (try clear HB)
     generalize (((((((((((((((w34.setCell ⟨gb309, 0, none⟩ (.int .i64 t291)).setCell ⟨gb309, 1, none⟩ (.string t292)).setCell ⟨gb309, 2, none⟩ (.bool t293)).setCell ⟨gb309, 3, none⟩ (.int .i64 t294)).setCell ⟨gb309, 4, none⟩ (.int .i64 t295)).setCell ⟨gb309, 5, none⟩ (.int .i64 t296)).setCell ⟨gb309, 6, none⟩ (.int .i64 t297)).setCell ⟨gb309, 7, none⟩ (.bool t298)).setCell ⟨gb309, 8, none⟩ (.bool t299)).setCell ⟨gb309, 9, none⟩ (.int .i64 t300)).setCell ⟨gb309, 10, none⟩ (.int .i64 t301)).setCell ⟨gb309, 11, none⟩ (.bool t302)).setCell ⟨gb309, 12, none⟩ (.bool t303)).setCell ⟨gb309, 13, none⟩ (.int .i64 t304)).setCell ⟨gb309, 14, none⟩ (.slice Ao37 t305.length co37)) = w38 at n0_ n1_ n2_ n3_ ⊢
     have HO307 := n0_
     have BK290 := n1_
     have BK309 := n2_
     have HB := n3_
     clear n0_ n1_ n2_ n3_
     have n0_ := Aside0.mk (Kd.R_drew HO307.out)
     have n1_ := Aside0.mk (z13q BK290.out)
     have n2_ := Aside0.mk (z13q BK309.out)
     have n3_ := Aside0.mk (z4q HB.out)
     clear HO307
     clear BK290
     clear BK309
     clear HB
     have HO307 := n0_
     have BK290 := n1_
     have BK309 := n2_
     have HB := n3_
     clear n0_ n1_ n2_ n3_
     refine start_ (n := 11) (S := fun w' => w'.cell? ⟨gb309, 0, none⟩ = some (.int .i64 t291) ∧ w'.cell? ⟨gb309, 1, none⟩ = some (.string t292) ∧ w'.cell? ⟨gb309, 2, none⟩ = some (.bool t293) ∧ w'.cell? ⟨gb309, 3, none⟩ = some (.int .i64 t294) ∧ w'.cell? ⟨gb309, 4, none⟩ = some (.int .i64 t295) ∧ w'.cell? ⟨gb309, 5, none⟩ = some (.int .i64 t296) ∧ w'.cell? ⟨gb309, 6, none⟩ = some (.int .i64 t297) ∧ w'.cell? ⟨gb309, 7, none⟩ = some (.bool t298) ∧ w'.cell? ⟨gb309, 8, none⟩ = some (.bool t299) ∧ w'.cell? ⟨gb309, 9, none⟩ = some (.int .i64 t300) ∧ w'.cell? ⟨gb309, 10, none⟩ = some (.int .i64 t301) ∧ w'.cell? ⟨gb309, 11, none⟩ = some (.bool t302) ∧ w'.cell? ⟨gb309, 12, none⟩ = some (.bool t303) ∧ w'.cell? ⟨gb309, 13, none⟩ = some (.int .i64 t304) ∧ w'.cell? ⟨gb309, 14, none⟩ = some (.slice Ao37 t305.length co37)) (ds := []) bt9_0 (by kernel_rfl) rfl rfl ⟨(z1q BK309.out 0).trans rfl, (z1q BK309.out 1).trans rfl, (z1q BK309.out 2).trans rfl, (z1q BK309.out 3).trans rfl, (z1q BK309.out 4).trans rfl, (z1q BK309.out 5).trans rfl, (z1q BK309.out 6).trans rfl, (z1q BK309.out 7).trans rfl, (z1q BK309.out 8).trans rfl, (z1q BK309.out 9).trans rfl, (z1q BK309.out 10).trans rfl, (z1q BK309.out 11).trans rfl, (z1q BK309.out 12).trans rfl, (z1q BK309.out 13).trans rfl, (z1q BK309.out 14).trans rfl⟩ (fun hHeld => ?_); refine with_tabW spec_l4Read.tab4 spec_l4Read.bits4 (fun HT_ HW_ => ?_)
     generalize w38.drew = w39 at HO307 BK290 BK309 HB hHeld ⊢
     refine pure_ (i := 1) (N := some 21) (v := ?_) (a' := ?_) bt9_1 rfl rfl (any_of HT_.out (by kernel_rfl)) (fun _ _ _ h => h) (Or.inl ⟨by rfl, ?_⟩) ?_ ?_
     rotate_left
     ·intro w'
      go_simp
      with_reducible rfl
     rotate_left
     ·simp only [Act.put, setIfInBounds_toArray, set_cons_zero, set_cons_succ, i64_w, i32_w]
      rfl
     refine pure_ (i := 2) (N := some 22) (v := ?_) (a' := ?_) bt9_2 rfl rfl (any_of HT_.out (by kernel_rfl)) (fun _ _ _ h => h) (Or.inl ⟨by rfl, ?_⟩) ?_ ?_
     rotate_left
     ·intro w'
      go_simp
      with_reducible rfl
     rotate_left
     ·simp only [Act.put, setIfInBounds_toArray, set_cons_zero, set_cons_succ, i64_w, i32_w]
      rfl
     refine pure_ (i := 3) (N := some 23) (v := ?_) (a' := ?_) bt9_3 rfl rfl (any_of HT_.out (by kernel_rfl)) (fun _ _ _ h => h) (Or.inl ⟨by rfl, ?_⟩) ?_ ?_
     rotate_left
     ·intro w'
      go_simp
      with_reducible rfl
     rotate_left
     ·simp only [Act.put, setIfInBounds_toArray, set_cons_zero, set_cons_succ, i64_w, i32_w]
      rfl
     refine pure_ (i := 4) (N := some 24) (v := ?_) (a' := ?_) bt9_4 rfl rfl (any_of HT_.out (by kernel_rfl)) (fun _ _ _ h => h) (Or.inl ⟨by rfl, ?_⟩) ?_ ?_
     rotate_left
     ·intro w'
      go_simp
      with_reducible rfl
     rotate_left
     ·simp only [Act.put, setIfInBounds_toArray, set_cons_zero, set_cons_succ, i64_w, i32_w]
      rfl
     refine pure_ (i := 5) (N := some 25) (v := ?_) (a' := ?_) bt9_5 rfl rfl (any_of HT_.out (by kernel_rfl)) (fun _ _ _ h => h) (Or.inl ⟨by rfl, ?_⟩) ?_ ?_
     rotate_left
     ·intro w'
      go_simp
      with_reducible rfl
     rotate_left
     ·simp only [Act.put, setIfInBounds_toArray, set_cons_zero, set_cons_succ, i64_w, i32_w]
      rfl
     refine pure_ (i := 6) (N := some 26) (v := undef) (a' := ?_) bt9_12 rfl rfl (any_of HT_.out (by kernel_rfl)) (fun _ _ _ h => h) (Or.inr ⟨by rfl, rfl⟩) ?_ ?_
     rotate_left
     ·simp only [Act.put, setIfInBounds_toArray, set_cons_zero, set_cons_succ, i64_w, i32_w]
      rfl
     refine pure_ (i := 7) (N := some 27) (v := undef) (a' := ?_) bt9_13 rfl rfl (any_of HT_.out (by kernel_rfl)) (fun _ _ _ h => h) (Or.inr ⟨by rfl, rfl⟩) ?_ ?_
     rotate_left
     ·simp only [Act.put, setIfInBounds_toArray, set_cons_zero, set_cons_succ, i64_w, i32_w]
      rfl
     refine pure_ (i := 8) (N := some 28) (v := ?_) (a' := ?_) bt9_14 rfl rfl (any_of HT_.out (by kernel_rfl)) (fun _ _ _ h => h) (Or.inl ⟨by rfl, ?_⟩) ?_ ?_
     rotate_left
     ·intro w'
      go_simp
      with_reducible rfl
     rotate_left
     ·simp only [Act.put, setIfInBounds_toArray, set_cons_zero, set_cons_succ, i64_w, i32_w]
      rfl
     refine take_ (i := 0) (N := some 20) (v := ?_) (a' := ?_) bt9_9 rfl rfl (take_ofW HT_.out HW_.out (by kernel_rfl)) (fun _ _ _ h => h) (Or.inl ⟨by rfl, ?_⟩) hHeld ?_ ?_
     rotate_left
     ·rintro w' ⟨s0, s1, s2, s3, s4, s5, s6, s7, s8, s9, s10, s11, s12, s13, s14⟩
      go_simp
      with_reducible rfl
     rotate_left
     ·simp only [Act.put, setIfInBounds_toArray, set_cons_zero, set_cons_succ, i64_w, i32_w]
      rfl
     refine one_ (i := 9) (N := none) bt9_10 rfl rfl (one_of HT_.out (by kernel_rfl)) (by decide) (fun K hK => ?_)
     have hs40 : w39.cell? ⟨gb290, 0, none⟩ = some (.int .i64 0) := (z1q BK290.out 0).trans rfl
     have hfs40 := z0q BK290.out 0
     have hns40_1 := NB309_290.out
     have hms40_1 := NB290_309.out
     have hs41 : w39.cell? ⟨gb290, 1, none⟩ = some (.string (⟨#[]⟩ : ByteArray)) := (z1q BK290.out 1).trans rfl
     have hfs41 := z0q BK290.out 1
     have hns41_1 := NB309_290.out
     have hms41_1 := NB290_309.out
     have hs42 : w39.cell? ⟨gb290, 2, none⟩ = some (.bool false) := (z1q BK290.out 2).trans rfl
     have hfs42 := z0q BK290.out 2
     have hns42_1 := NB309_290.out
     have hms42_1 := NB290_309.out
     have hs43 : w39.cell? ⟨gb290, 3, none⟩ = some (.int .i64 0) := (z1q BK290.out 3).trans rfl
     have hfs43 := z0q BK290.out 3
     have hns43_1 := NB309_290.out
     have hms43_1 := NB290_309.out
     have hs44 : w39.cell? ⟨gb290, 4, none⟩ = some (.int .i64 0) := (z1q BK290.out 4).trans rfl
     have hfs44 := z0q BK290.out 4
     have hns44_1 := NB309_290.out
     have hms44_1 := NB290_309.out
     have hs45 : w39.cell? ⟨gb290, 5, none⟩ = some (.int .i64 0) := (z1q BK290.out 5).trans rfl
     have hfs45 := z0q BK290.out 5
     have hns45_1 := NB309_290.out
     have hms45_1 := NB290_309.out
     have hs46 : w39.cell? ⟨gb290, 6, none⟩ = some (.int .i64 0) := (z1q BK290.out 6).trans rfl
     have hfs46 := z0q BK290.out 6
     have hns46_1 := NB309_290.out
     have hms46_1 := NB290_309.out
     have hs47 : w39.cell? ⟨gb290, 7, none⟩ = some (.bool false) := (z1q BK290.out 7).trans rfl
     have hfs47 := z0q BK290.out 7
     have hns47_1 := NB309_290.out
     have hms47_1 := NB290_309.out
     have hs48 : w39.cell? ⟨gb290, 8, none⟩ = some (.bool false) := (z1q BK290.out 8).trans rfl
     have hfs48 := z0q BK290.out 8
     have hns48_1 := NB309_290.out
     have hms48_1 := NB290_309.out
     have hs49 : w39.cell? ⟨gb290, 9, none⟩ = some (.int .i64 0) := (z1q BK290.out 9).trans rfl
     have hfs49 := z0q BK290.out 9
     have hns49_1 := NB309_290.out
     have hms49_1 := NB290_309.out
     have hs50 : w39.cell? ⟨gb290, 10, none⟩ = some (.int .i64 0) := (z1q BK290.out 10).trans rfl
     have hfs50 := z0q BK290.out 10
     have hns50_1 := NB309_290.out
     have hms50_1 := NB290_309.out
     have hs51 : w39.cell? ⟨gb290, 11, none⟩ = some (.bool false) := (z1q BK290.out 11).trans rfl
     have hfs51 := z0q BK290.out 11
     have hns51_1 := NB309_290.out
     have hms51_1 := NB290_309.out
     have hs52 : w39.cell? ⟨gb290, 12, none⟩ = some (.bool false) := (z1q BK290.out 12).trans rfl
     have hfs52 := z0q BK290.out 12
     have hns52_1 := NB309_290.out
     have hms52_1 := NB290_309.out
     have hs53 : w39.cell? ⟨gb290, 13, none⟩ = some (.int .i64 0) := (z1q BK290.out 13).trans rfl
     have hfs53 := z0q BK290.out 13
     have hns53_1 := NB309_290.out
     have hms53_1 := NB290_309.out
     have hs54 : w39.cell? ⟨gb290, 14, none⟩ = some (.slice none 0 0) := (z1q BK290.out 14).trans rfl
     have hfs54 := z0q BK290.out 14
     have hns54_1 := NB309_290.out
     have hms54_1 := NB290_309.out
     refine skip_ (w1 := ?_) (by rfl) rfl ?_ ?_
     rotate_left
     ·go_simp
      rfl
     refine hK.out _ _ ⟨(by (iterate 15 refine (z5q (p := ⟨gb290, _, none⟩) NB309_290.out _).trans ?_); exact hHeld.1), (by (iterate 15 refine (z5q (p := ⟨gb290, _, none⟩) NB309_290.out _).trans ?_); exact hHeld.2.1), (by (iterate 15 refine (z5q (p := ⟨gb290, _, none⟩) NB309_290.out _).trans ?_); exact hHeld.2.2.1), (by (iterate 15 refine (z5q (p := ⟨gb290, _, none⟩) NB309_290.out _).trans ?_); exact hHeld.2.2.2.1), (by (iterate 15 refine (z5q (p := ⟨gb290, _, none⟩) NB309_290.out _).trans ?_); exact hHeld.2.2.2.2.1), (by (iterate 15 refine (z5q (p := ⟨gb290, _, none⟩) NB309_290.out _).trans ?_); exact hHeld.2.2.2.2.2.1), (by (iterate 15 refine (z5q (p := ⟨gb290, _, none⟩) NB309_290.out _).trans ?_); exact hHeld.2.2.2.2.2.2.1), (by (iterate 15 refine (z5q (p := ⟨gb290, _, none⟩) NB309_290.out _).trans ?_); exact hHeld.2.2.2.2.2.2.2.1), (by (iterate 15 refine (z5q (p := ⟨gb290, _, none⟩) NB309_290.out _).trans ?_); exact hHeld.2.2.2.2.2.2.2.2.1), (by (iterate 15 refine (z5q (p := ⟨gb290, _, none⟩) NB309_290.out _).trans ?_); exact hHeld.2.2.2.2.2.2.2.2.2.1), (by (iterate 15 refine (z5q (p := ⟨gb290, _, none⟩) NB309_290.out _).trans ?_); exact hHeld.2.2.2.2.2.2.2.2.2.2.1), (by (iterate 15 refine (z5q (p := ⟨gb290, _, none⟩) NB309_290.out _).trans ?_); exact hHeld.2.2.2.2.2.2.2.2.2.2.2.1), (by (iterate 15 refine (z5q (p := ⟨gb290, _, none⟩) NB309_290.out _).trans ?_); exact hHeld.2.2.2.2.2.2.2.2.2.2.2.2.1), (by (iterate 15 refine (z5q (p := ⟨gb290, _, none⟩) NB309_290.out _).trans ?_); exact hHeld.2.2.2.2.2.2.2.2.2.2.2.2.2.1), (by (iterate 15 refine (z5q (p := ⟨gb290, _, none⟩) NB309_290.out _).trans ?_); exact hHeld.2.2.2.2.2.2.2.2.2.2.2.2.2.2)⟩ (fun hHeld => ?_)
     clear hK K
     refine pure_ (i := 10) (N := some 3) (v := ?_) (a' := ?_) bt9_11 rfl rfl (any_of HT_.out (by kernel_rfl)) (fun _ _ _ h => h) (Or.inl ⟨by rfl, ?_⟩) ?_ ?_
     rotate_left
     ·intro w'
      go_simp
      with_reducible rfl
     rotate_left
     ·simp only [Act.put, setIfInBounds_toArray, set_cons_zero, set_cons_succ, i64_w, i32_w]
      rfl
     refine done_ (done_of HT_.out (by kernel_rfl)) ?_
     try go_wp2
     refine bodyPost_ret (results_ct rfl _ _ gb290 70 #[.int .i64 t291, .string t292, .bool t293, .int .i64 t294, .int .i64 t295, .int .i64 t296, .int .i64 t297, .bool t298, .bool t299, .int .i64 t300, .int .i64 t301, .bool t302, .bool t303, .int .i64 t304, .slice Ao37 t305.length co37] (0, 0) _ rfl (by refine cz ?_; refine z9q (cs := #[.int .i64 t291, .string t292, .bool t293, .int .i64 t294, .int .i64 t295, .int .i64 t296, .int .i64 t297, .bool t298, .bool t299, .int .i64 t300, .int .i64 t301, .bool t302, .bool t303, .int .i64 t304, .slice none 0 0]) ?_ 14 _ rfl; refine cz ?_; refine z9q (cs := #[.int .i64 t291, .string t292, .bool t293, .int .i64 t294, .int .i64 t295, .int .i64 t296, .int .i64 t297, .bool t298, .bool t299, .int .i64 t300, .int .i64 t301, .bool t302, .bool t303, .int .i64 0, .slice none 0 0]) ?_ 13 _ rfl; refine cz ?_; refine z9q (cs := #[.int .i64 t291, .string t292, .bool t293, .int .i64 t294, .int .i64 t295, .int .i64 t296, .int .i64 t297, .bool t298, .bool t299, .int .i64 t300, .int .i64 t301, .bool t302, .bool false, .int .i64 0, .slice none 0 0]) ?_ 12 _ rfl; refine cz ?_; refine z9q (cs := #[.int .i64 t291, .string t292, .bool t293, .int .i64 t294, .int .i64 t295, .int .i64 t296, .int .i64 t297, .bool t298, .bool t299, .int .i64 t300, .int .i64 t301, .bool false, .bool false, .int .i64 0, .slice none 0 0]) ?_ 11 _ rfl; refine cz ?_; refine z9q (cs := #[.int .i64 t291, .string t292, .bool t293, .int .i64 t294, .int .i64 t295, .int .i64 t296, .int .i64 t297, .bool t298, .bool t299, .int .i64 t300, .int .i64 0, .bool false, .bool false, .int .i64 0, .slice none 0 0]) ?_ 10 _ rfl; refine cz ?_; refine z9q (cs := #[.int .i64 t291, .string t292, .bool t293, .int .i64 t294, .int .i64 t295, .int .i64 t296, .int .i64 t297, .bool t298, .bool t299, .int .i64 0, .int .i64 0, .bool false, .bool false, .int .i64 0, .slice none 0 0]) ?_ 9 _ rfl; refine cz ?_; refine z9q (cs := #[.int .i64 t291, .string t292, .bool t293, .int .i64 t294, .int .i64 t295, .int .i64 t296, .int .i64 t297, .bool t298, .bool false, .int .i64 0, .int .i64 0, .bool false, .bool false, .int .i64 0, .slice none 0 0]) ?_ 8 _ rfl; refine cz ?_; refine z9q (cs := #[.int .i64 t291, .string t292, .bool t293, .int .i64 t294, .int .i64 t295, .int .i64 t296, .int .i64 t297, .bool false, .bool false, .int .i64 0, .int .i64 0, .bool false, .bool false, .int .i64 0, .slice none 0 0]) ?_ 7 _ rfl; refine cz ?_; refine z9q (cs := #[.int .i64 t291, .string t292, .bool t293, .int .i64 t294, .int .i64 t295, .int .i64 t296, .int .i64 0, .bool false, .bool false, .int .i64 0, .int .i64 0, .bool false, .bool false, .int .i64 0, .slice none 0 0]) ?_ 6 _ rfl; refine cz ?_; refine z9q (cs := #[.int .i64 t291, .string t292, .bool t293, .int .i64 t294, .int .i64 t295, .int .i64 0, .int .i64 0, .bool false, .bool false, .int .i64 0, .int .i64 0, .bool false, .bool false, .int .i64 0, .slice none 0 0]) ?_ 5 _ rfl; refine cz ?_; refine z9q (cs := #[.int .i64 t291, .string t292, .bool t293, .int .i64 t294, .int .i64 0, .int .i64 0, .int .i64 0, .bool false, .bool false, .int .i64 0, .int .i64 0, .bool false, .bool false, .int .i64 0, .slice none 0 0]) ?_ 4 _ rfl; refine cz ?_; refine z9q (cs := #[.int .i64 t291, .string t292, .bool t293, .int .i64 0, .int .i64 0, .int .i64 0, .int .i64 0, .bool false, .bool false, .int .i64 0, .int .i64 0, .bool false, .bool false, .int .i64 0, .slice none 0 0]) ?_ 3 _ rfl; refine cz ?_; refine z9q (cs := #[.int .i64 t291, .string t292, .bool false, .int .i64 0, .int .i64 0, .int .i64 0, .int .i64 0, .bool false, .bool false, .int .i64 0, .int .i64 0, .bool false, .bool false, .int .i64 0, .slice none 0 0]) ?_ 2 _ rfl; refine cz ?_; refine z9q (cs := #[.int .i64 t291, .string (⟨#[]⟩ : ByteArray), .bool false, .int .i64 0, .int .i64 0, .int .i64 0, .int .i64 0, .bool false, .bool false, .int .i64 0, .int .i64 0, .bool false, .bool false, .int .i64 0, .slice none 0 0]) ?_ 1 _ rfl; refine cz ?_; refine z9q (cs := #[.int .i64 0, .string (⟨#[]⟩ : ByteArray), .bool false, .int .i64 0, .int .i64 0, .int .i64 0, .int .i64 0, .bool false, .bool false, .int .i64 0, .int .i64 0, .bool false, .bool false, .int .i64 0, .slice none 0 0]) ?_ 0 _ rfl; exact cy BK290.out) Tryz.underlying70 rfl (by kernel_rfl)) rfl ?_
     exact ⟨_, by first | rfl | (simp [errW_none, errW_some] <;> rfl) | (simp [*, errW_none, errW_some] <;> rfl), by (with_reducible repeat (first | apply Kd.R_alloc | apply Kd.R_drewN | apply Kd.R_drew)); exact Kd.R_mono (Kd.R_far (p := ⟨gb290, 14, none⟩) (Kd.R_far (p := ⟨gb290, 13, none⟩) (Kd.R_far (p := ⟨gb290, 12, none⟩) (Kd.R_far (p := ⟨gb290, 11, none⟩) (Kd.R_far (p := ⟨gb290, 10, none⟩) (Kd.R_far (p := ⟨gb290, 9, none⟩) (Kd.R_far (p := ⟨gb290, 8, none⟩) (Kd.R_far (p := ⟨gb290, 7, none⟩) (Kd.R_far (p := ⟨gb290, 6, none⟩) (Kd.R_far (p := ⟨gb290, 5, none⟩) (Kd.R_far (p := ⟨gb290, 4, none⟩) (Kd.R_far (p := ⟨gb290, 3, none⟩) (Kd.R_far (p := ⟨gb290, 2, none⟩) (Kd.R_far (p := ⟨gb290, 1, none⟩) (Kd.R_far (p := ⟨gb290, 0, none⟩) (Kd.R_mono HO307.out (fun k_ hk => (⟨hk, hk.1⟩ : _ ∧ k_ ≠ gb290))) (fun _ hk => hk.2) (.int .i64 t291)) (fun _ hk => hk.2) (.string t292)) (fun _ hk => hk.2) (.bool t293)) (fun _ hk => hk.2) (.int .i64 t294)) (fun _ hk => hk.2) (.int .i64 t295)) (fun _ hk => hk.2) (.int .i64 t296)) (fun _ hk => hk.2) (.int .i64 t297)) (fun _ hk => hk.2) (.bool t298)) (fun _ hk => hk.2) (.bool t299)) (fun _ hk => hk.2) (.int .i64 t300)) (fun _ hk => hk.2) (.int .i64 t301)) (fun _ hk => hk.2) (.bool t302)) (fun _ hk => hk.2) (.bool t303)) (fun _ hk => hk.2) (.int .i64 t304)) (fun _ hk => hk.2) (.slice Ao37 t305.length co37)) (fun _ hk => trivial), by repeat (first | (with_reducible first | exact HB.out | apply z2q | apply z3q | apply z4q | refine z8q ?_ GE290.out | refine z8q ?_ GE309.out) | exact HB.out)⟩

end Go.Proofs.YtegdpgpbdcediaaGreatDoor.PFnExactGoodFormula
