/- Functions of the program as Lean functions, and proofs that the Go code comes to their answers: for the law FnDays; made out of the print by a program of mine (compact.py). No conditions but each theorem's own. -/
import Derived.Test.YtffamggcjijobaaDoorMFnDaysa0
import Derived.Test.YtffamggcjijobaaDoorMFnDaysa1
namespace Go.Proofs.YtffamggcjijobaaDoor.PFnDays
open List (map_toArray map_cons map_nil length_drop length_take set_cons_zero set_cons_succ setIfInBounds_toArray)
open Go.RowKit Go.Proofs.YtffamggcjijobaaDoorW.PrintWords Go.Proofs.YtffamggcjijobaaDoorW.PrintLast Go.Proofs.YtffamggcjijobaaDoorW.PrintMore
attribute [local go_sem] max2_int min2_int max_two min_two max_three min_three max_four min_four   -- for this text's walks alone
set_option linter.unusedVariables false
set_option linter.unusedSimpArgs false

attribute [local go_sem high] eqA36
set_option maxHeartbeats 8000000 in
set_option maxRecDepth 100000 in
theorem spec_l2DateOf.calls_p1 (k : Nat) (a0 : Int) (a1 : Int) (r1 : Int) (r2 : Int) (r3 : Int) (w : World) (t189 : _) (A3 : Aside0 ((spec_l2Floor.f a1 366) = some t189)) (H : (if a1 < 0 then ((spec_l2Floor.f a1 365).bind fun t191 => (spec_l2DateOf.j0 k a0 a1 (wrap64 ((wrap64 (2000 + t191)) - 2)) 1 1)) else (spec_l2DateOf.j0 k a0 a1 (wrap64 ((wrap64 (2000 + t189)) - 1)) 1 1)) = some (r1, r2, r3)) :
  Calls Tryd.prog 57 #[.int .i64 a0, .int .i64 a1] w fun e w' => e = .returned (.agg #[.int .i64 r1, .int .i64 r2, .int .i64 r3]) ∧ Below w.heap.size w w' := by
 have hu36 := Tryd.underlying36
 have HB := Aside0.mk (Below.refl w.heap.size w)
 have HC4 := Aside0.mk H
 clear H
 go_enter Tryd.func57, Tryd.ntmps57
 go_upto_if 18 with (first | ((with_reducible refine z22q (N := 4) rfl ?_); refine z20q ?hg (N := 4) ?hd (cs := #[.int .i64 0, .int .i64 0, .int .i64 0]) (t := 36) ?hr ?_; (case hd => rfl); (case hg => rfl); (case hr => first | (go_simp; done) | (go_simp; rfl)); intro gb188 hg w5 hbox hb; have n0_ := Aside0.mk (z11q (by repeat (first | (with_reducible first | exact HB.out | apply z2q | apply z0q | apply z1q) | exact HB.out)) hb); have n1_ := Aside0.mk (hbox); have n2_ := Aside0.mk ((by rw [hg]; exact (z12q (by repeat (first | (with_reducible first | exact HB.out | apply z2q | apply z0q | apply z1q) | exact HB.out))) : w.heap.size ≤ gb188)); have n3_ := Aside0.mk ((by rw [hg]; exact (z12q (by repeat (first | (with_reducible first | exact HB.out | apply z2q | apply z0q | apply z1q) | exact HB.out))) : w.heap.size ≤ gb188)); clear HB; have HB := n0_; have BK188 := n1_; have GW188 := n2_; have GE188 := n3_; clear n0_ n1_ n2_ n3_; clear hb hbox hg) | ((with_reducible refine z9q (f := 75) rfl ?_); refine z17q (some 13) rfl rfl Tryd.func75 (by kernel_rfl) rfl #[.int .i64 a1, .int .i64 366] rfl (by (try simp only [map_toArray, map_cons, map_nil]); first | done | rfl | (simp only [length_drop, length_take]; rfl)) ?_; (with_reducible refine (spec_l2Floor.calls a1 366 t189 _ A3.out).mono ?_); rintro e w' ⟨rfl, ⟨nd, rfl⟩⟩; refine ⟨_, rfl, ?_⟩; (try (rw [drewN_self w5]; generalize hq_ : World.drewN w5 _ = w5; have n0_ : Aside0 (w5.heap[gb188]? = some (.cells #[.int .i64 0, .int .i64 0, .int .i64 0] 36 (0, 0))) := ⟨by rw [← hq_]; exact (by (with_reducible repeat (first | refine z4q ?_ _ | refine z6q ?_ | refine z5q ?_ _)); exact BK188.out)⟩; have n1_ : Aside0 (Below w.heap.size w w5) := ⟨by rw [← hq_]; exact (by repeat (first | (with_reducible first | exact HB.out | apply z2q | apply z0q | apply z1q | refine z3q ?_ GE188.out) | exact HB.out))⟩; clear BK188 HB hq_; have BK188 := n0_; have HB := n1_; clear n0_ n1_))) | ((with_reducible refine z22q (N := 5) rfl ?_); refine z20q ?hg (N := 5) ?hd (cs := #[.int .i64 0, .int .i64 0, .int .i64 0]) (t := 36) ?hr ?_; (case hd => rfl); (case hg => rfl); (case hr => first | (go_simp; done) | (go_simp; rfl)); intro gb190 hg w6 hbox hb; have n0_ := Aside0.mk (z13q (g := gb188) (o := .cells #[.int .i64 0, .int .i64 0, .int .i64 0] 36 (0, 0)) (by (with_reducible repeat (first | refine z4q ?_ _ | refine z6q ?_ | refine z5q ?_ _)); exact BK188.out) hb); have n1_ := Aside0.mk (z11q (by repeat (first | (with_reducible first | exact HB.out | apply z2q | apply z0q | apply z1q | refine z3q ?_ GE188.out) | exact HB.out)) hb); have n2_ := Aside0.mk (hbox); have n3_ := Aside0.mk ((by rw [hg]; exact (z12q (by repeat (first | (with_reducible first | exact HB.out | apply z2q | apply z0q | apply z1q | refine z3q ?_ GE188.out) | exact HB.out))) : w.heap.size ≤ gb190)); have n4_ := Aside0.mk ((by rw [hg]; exact (z12q (by repeat (first | (with_reducible first | exact HB.out | apply z2q | apply z0q | apply z1q | refine z3q ?_ GE188.out) | exact HB.out))) : w.heap.size ≤ gb190)); have n5_ := Aside0.mk ((by rw [hg]; exact Nat.ne_of_lt (z21q (g := gb188) (o := .cells #[.int .i64 0, .int .i64 0, .int .i64 0] 36 (0, 0)) (by (with_reducible repeat (first | refine z4q ?_ _ | refine z6q ?_ | refine z5q ?_ _)); exact BK188.out)) : gb188 ≠ gb190)); have n6_ := Aside0.mk ((by rw [hg]; exact Nat.ne_of_gt (z21q (g := gb188) (o := .cells #[.int .i64 0, .int .i64 0, .int .i64 0] 36 (0, 0)) (by (with_reducible repeat (first | refine z4q ?_ _ | refine z6q ?_ | refine z5q ?_ _)); exact BK188.out)) : gb190 ≠ gb188)); clear BK188; clear HB; have BK188 := n0_; have HB := n1_; have BK190 := n2_; have GW190 := n3_; have GE190 := n4_; have NB188_190 := n5_; have NB190_188 := n6_; clear n0_ n1_ n2_ n3_ n4_ n5_ n6_; clear hb hbox hg; have hnb7 := NB190_188.out; have hnc7 := NB188_190.out; have hcz8_0 : w6.cell? ⟨gb190, 0, none⟩ = some (.int .i64 0) := (z7q BK190.out 0).trans rfl; have hcz8_1 : w6.cell? ⟨gb190, 1, none⟩ = some (.int .i64 0) := (z7q BK190.out 1).trans rfl; have hcz8_2 : w6.cell? ⟨gb190, 2, none⟩ = some (.int .i64 0) := (z7q BK190.out 2).trans rfl; have hfz8_0 := z8q BK190.out 0; have hfz8_1 := z8q BK190.out 1; have hfz8_2 := z8q BK190.out 2))
 (try simp only [Act.put, setIfInBounds_toArray, set_cons_zero, set_cons_succ])
 go_cut [] (fun wc => ∃ (kq : Nat) (x191000_3 : Int), Aside0 (spec_l2DateOf.j0 kq a0 a1 x191000_3 1 1 = some (r1, r2, r3)) ∧ Aside0 (kq ≤ k) ∧ Aside0 (wc.heap[gb188]? = some (.cells #[.int .i64 0, .int .i64 0, .int .i64 0] 36 (0, 0))) ∧ Aside0 (wc.heap[gb190]? = some (.cells #[.int .i64 x191000_3, .int .i64 1, .int .i64 1] 36 (0, 0))) ∧ Aside0 (Below w.heap.size w wc))
 case first =>
  have H := HC4.out
  clear HC4
  by_cases c9 : a1 < 0
  ·rw [if_pos c9] at H
   have c9b0 : decide (a1 < 0) = true := decide_eq_true c9
   clear c9
   (first | rw [c9b0] | (simp only [i64_w, i32_w]; rw [c9b0]) | skip)
   replace H := Option.bind_eq_some_iff.mp H
   obtain ⟨t191, A100, H⟩ := H
   replace H : (spec_l2DateOf.j0 k a0 a1 (wrap64 ((wrap64 (2000 + t191)) - 2)) 1 1) = some (r1, r2, r3) := H
   have A10 := Aside0.mk A100
   clear A100
   have H' := Aside0.mk H
   clear H
   go_wp2_with (first | ((with_reducible refine z9q (f := 75) rfl ?_); refine z17q (some 20) rfl rfl Tryd.func75 (by kernel_rfl) rfl #[.int .i64 a1, .int .i64 365] rfl (by (try simp only [map_toArray, map_cons, map_nil]); first | done | rfl | (simp only [length_drop, length_take]; rfl)) ?_; (with_reducible refine (spec_l2Floor.calls a1 365 t191 _ A10.out).mono ?_); rintro e w' ⟨rfl, ⟨nd, rfl⟩⟩; refine ⟨_, rfl, ?_⟩; have hnb11 := NB190_188.out; have hnc11 := NB188_190.out; have hcz12_0 : w6.cell? ⟨gb190, 0, none⟩ = some (.int .i64 0) := (z7q BK190.out 0).trans rfl; have hcz12_1 : w6.cell? ⟨gb190, 1, none⟩ = some (.int .i64 0) := (z7q BK190.out 1).trans rfl; have hcz12_2 : w6.cell? ⟨gb190, 2, none⟩ = some (.int .i64 0) := (z7q BK190.out 2).trans rfl; have hfz12_0 := z8q BK190.out 0; have hfz12_1 := z8q BK190.out 1; have hfz12_2 := z8q BK190.out 2))
   go_meet
   case rel => exact ⟨_, (wrap64 ((wrap64 (2000 + t191)) - 2)), H', ⟨by first | omega | exact Nat.le_refl _⟩, ⟨by (with_reducible repeat (first | refine z4q ?_ _ | refine z6q ?_ | refine z5q ?_ _)); refine z18q ?_ NB188_190.out _; (with_reducible repeat (first | refine z4q ?_ _ | refine z6q ?_ | refine z5q ?_ _)); refine z18q ?_ NB188_190.out _; (with_reducible repeat (first | refine z4q ?_ _ | refine z6q ?_ | refine z5q ?_ _)); refine z18q ?_ NB188_190.out _; (with_reducible repeat (first | refine z4q ?_ _ | refine z6q ?_ | refine z5q ?_ _)); refine z18q ?_ NB188_190.out _; (with_reducible repeat (first | refine z4q ?_ _ | refine z6q ?_ | refine z5q ?_ _)); exact BK188.out⟩, ⟨by (with_reducible repeat (first | refine z4q ?_ _ | refine z6q ?_ | refine z5q ?_ _)); refine z14q (cs := #[.int .i64 (wrap64 ((wrap64 (2000 + t189)) - 1)), .int .i64 1, .int .i64 1]) ?_ 0 _ rfl; (with_reducible repeat (first | refine z4q ?_ _ | refine z6q ?_ | refine z5q ?_ _)); refine z14q (cs := #[.int .i64 (wrap64 ((wrap64 (2000 + t189)) - 1)), .int .i64 1, .int .i64 0]) ?_ 2 _ rfl; (with_reducible repeat (first | refine z4q ?_ _ | refine z6q ?_ | refine z5q ?_ _)); refine z14q (cs := #[.int .i64 (wrap64 ((wrap64 (2000 + t189)) - 1)), .int .i64 0, .int .i64 0]) ?_ 1 _ rfl; (with_reducible repeat (first | refine z4q ?_ _ | refine z6q ?_ | refine z5q ?_ _)); refine z14q (cs := #[.int .i64 0, .int .i64 0, .int .i64 0]) ?_ 0 _ rfl; (with_reducible repeat (first | refine z4q ?_ _ | refine z6q ?_ | refine z5q ?_ _)); exact BK190.out⟩, ⟨by repeat (first | (with_reducible first | exact HB.out | apply z2q | apply z0q | apply z1q | refine z3q ?_ GE188.out | refine z3q ?_ GE190.out) | exact HB.out)⟩⟩
  ·rw [if_neg c9] at H
   have c9b0 : decide (a1 < 0) = false := decide_eq_false c9
   clear c9
   (first | rw [c9b0] | (simp only [i64_w, i32_w]; rw [c9b0]) | skip)
   have H' := Aside0.mk H
   clear H
   go_wp2
   go_meet
   case rel => exact ⟨_, (wrap64 ((wrap64 (2000 + t189)) - 1)), H', ⟨by first | omega | exact Nat.le_refl _⟩, ⟨by (with_reducible repeat (first | refine z4q ?_ _ | refine z6q ?_ | refine z5q ?_ _)); refine z18q ?_ NB188_190.out _; (with_reducible repeat (first | refine z4q ?_ _ | refine z6q ?_ | refine z5q ?_ _)); refine z18q ?_ NB188_190.out _; (with_reducible repeat (first | refine z4q ?_ _ | refine z6q ?_ | refine z5q ?_ _)); refine z18q ?_ NB188_190.out _; (with_reducible repeat (first | refine z4q ?_ _ | refine z6q ?_ | refine z5q ?_ _)); exact BK188.out⟩, ⟨by (with_reducible repeat (first | refine z4q ?_ _ | refine z6q ?_ | refine z5q ?_ _)); refine z14q (cs := #[.int .i64 (wrap64 ((wrap64 (2000 + t189)) - 1)), .int .i64 1, .int .i64 0]) ?_ 2 _ rfl; (with_reducible repeat (first | refine z4q ?_ _ | refine z6q ?_ | refine z5q ?_ _)); refine z14q (cs := #[.int .i64 (wrap64 ((wrap64 (2000 + t189)) - 1)), .int .i64 0, .int .i64 0]) ?_ 1 _ rfl; (with_reducible repeat (first | refine z4q ?_ _ | refine z6q ?_ | refine z5q ?_ _)); refine z14q (cs := #[.int .i64 0, .int .i64 0, .int .i64 0]) ?_ 0 _ rfl; (with_reducible repeat (first | refine z4q ?_ _ | refine z6q ?_ | refine z5q ?_ _)); exact BK190.out⟩, ⟨by repeat (first | (with_reducible first | exact HB.out | apply z2q | apply z0q | apply z1q | refine z3q ?_ GE188.out | refine z3q ?_ GE190.out) | exact HB.out)⟩⟩
 case rest =>
  clear HC4
  try clear c1
  try clear p2
  try clear c5
  try clear p6
  try clear c7
  try clear c9
  try clear c9b0
  try clear c11
  try clear hcz12_0
  try clear hcz12_1
  try clear hcz12_2
  try clear hcz8_0
  try clear hcz8_1
  try clear hcz8_2
  try clear hfz12_0
  try clear hfz12_1
  try clear hfz12_2
  try clear hfz8_0
  try clear hfz8_1
  try clear hfz8_2
  obtain ⟨kq, x191000_3, HA, HJ3, BK188, BK190, HB⟩ := hcut
  cases kq with
  | zero => exact absurd HA.out (by simp [spec_l2DateOf.j0])
  | succ kj3 =>
   have H := HA.out
   clear HA
   simp only [spec_l2DateOf.j0] at H
   have H' := Aside0.mk H
   clear H
   go_wp2
   go_loopg [] kj3 (fun kq w' => ∃ (x191000_2 : Int) (x191001_2 : Int) (x191002_2 : Int), Aside0 (spec_l2DateOf.l0 kq a0 a1 x191000_2 x191001_2 x191002_2 = some (r1, r2, r3)) ∧ Aside0 (kq ≤ kj3) ∧ Aside0 (w'.heap[gb188]? = some (.cells #[.int .i64 0, .int .i64 0, .int .i64 0] 36 (0, 0))) ∧ Aside0 (w'.heap[gb190]? = some (.cells #[.int .i64 x191000_2, .int .i64 x191001_2, .int .i64 x191002_2] 36 (0, 0))) ∧ Aside0 (Below w.heap.size w w'))
   case atStart => exact ⟨(x191000_3), (1), (1), H', ⟨Nat.le_refl _⟩, ⟨by (with_reducible repeat (first | refine z4q ?_ _ | refine z6q ?_ | refine z5q ?_ _)); exact BK188.out⟩, ⟨by (with_reducible repeat (first | refine z4q ?_ _ | refine z6q ?_ | refine z5q ?_ _)); exact BK190.out⟩, ⟨by repeat (first | (with_reducible first | exact HB.out | apply z2q | apply z0q | apply z1q | refine z3q ?_ GE188.out | refine z3q ?_ GE190.out) | exact HB.out)⟩⟩
   case round =>
    clear H'
    try clear c1
    try clear p2
    try clear c5
    try clear p6
    try clear c7
    try clear c9
    try clear c9b0
    try clear c11
    try clear hcz12_0
    try clear hcz12_1
    try clear hcz12_2
    try clear hcz8_0
    try clear hcz8_1
    try clear hcz8_2
    try clear hfz12_0
    try clear hfz12_1
    try clear hfz12_2
    try clear hfz8_0
    try clear hfz8_1
    try clear hfz8_2
    try clear p2
    try clear p6
    obtain ⟨x191000_2, x191001_2, x191002_2, HA, HK2, BK188, BK190, HB⟩ := hrel
    cases gk with
    | zero => exact absurd HA.out (by simp [spec_l2DateOf.l0])
    | succ k2 =>
     have H := HA.out
     clear HA
     simp only [spec_l2DateOf.l0] at H
     replace H := Option.bind_eq_some_iff.mp H
     obtain ⟨⟨t193, t194⟩, A130, H⟩ := H
     replace H : (if t193 > a1 then ((spec_l2First.f a0 x191000_2).bind fun bt195 => (spec_l2DateOf.l1 k2 a0 (wrap64 (a1 - bt195.1)) x191000_2 x191001_2 x191002_2)) else (spec_l2DateOf.l0 k2 a0 a1 (wrap64 (x191000_2 + 1)) x191001_2 x191002_2)) = some (r1, r2, r3) := H
     have A13 := Aside0.mk A130
     clear A130
     by_cases c14 : t193 > a1
     ·rw [if_pos c14] at H
      have c14b0 : decide (a1 < t193) = true := decide_eq_true c14
      clear c14
      replace H := Option.bind_eq_some_iff.mp H
      obtain ⟨⟨t195, t196⟩, A150, H⟩ := H
      replace H : (spec_l2DateOf.l1 k2 a0 (wrap64 (a1 - t195)) x191000_2 x191001_2 x191002_2) = some (r1, r2, r3) := H
      have A15 := Aside0.mk A150
      clear A150
      have H' := Aside0.mk H
      clear H
      have hnb16 := NB190_188.out
      have hnc16 := NB188_190.out
      have hcz17_0 : wr.cell? ⟨gb190, 0, none⟩ = some (.int .i64 x191000_2) := (z7q BK190.out 0).trans rfl
      have hcz17_1 : wr.cell? ⟨gb190, 1, none⟩ = some (.int .i64 x191001_2) := (z7q BK190.out 1).trans rfl
      have hcz17_2 : wr.cell? ⟨gb190, 2, none⟩ = some (.int .i64 x191002_2) := (z7q BK190.out 2).trans rfl
      have hfz17_0 := z8q BK190.out 0
      have hfz17_1 := z8q BK190.out 1
      have hfz17_2 := z8q BK190.out 2
      go_wp2_with (first | ((with_reducible refine z22q (N := 6) rfl ?_); refine z20q ?hg (N := 6) ?hd (cs := #[.int .i64 0, .int .i64 0, .int .i64 0]) (t := 36) ?hr ?_; (case hd => rfl); (case hg => rfl); (case hr => first | (go_simp; done) | (go_simp; rfl)); intro gb192 hg w18 hbox hb; have n0_ := Aside0.mk (z13q (g := gb188) (o := .cells #[.int .i64 0, .int .i64 0, .int .i64 0] 36 (0, 0)) (by (with_reducible repeat (first | refine z4q ?_ _ | refine z6q ?_ | refine z5q ?_ _)); exact BK188.out) hb); have n1_ := Aside0.mk (z13q (g := gb190) (o := .cells #[.int .i64 x191000_2, .int .i64 x191001_2, .int .i64 x191002_2] 36 (0, 0)) (by (with_reducible repeat (first | refine z4q ?_ _ | refine z6q ?_ | refine z5q ?_ _)); exact BK190.out) hb); have n2_ := Aside0.mk (z11q (by repeat (first | (with_reducible first | exact HB.out | apply z2q | apply z0q | apply z1q | refine z3q ?_ GE188.out | refine z3q ?_ GE190.out) | exact HB.out)) hb); have n3_ := Aside0.mk (hbox); have n4_ := Aside0.mk ((by rw [hg]; exact (z12q (by repeat (first | (with_reducible first | exact HB.out | apply z2q | apply z0q | apply z1q | refine z3q ?_ GE188.out | refine z3q ?_ GE190.out) | exact HB.out))) : w.heap.size ≤ gb192)); have n5_ := Aside0.mk ((by rw [hg]; exact (z12q (by repeat (first | (with_reducible first | exact HB.out | apply z2q | apply z0q | apply z1q | refine z3q ?_ GE188.out | refine z3q ?_ GE190.out) | exact HB.out))) : w.heap.size ≤ gb192)); have n6_ := Aside0.mk ((by rw [hg]; exact Nat.ne_of_lt (z21q (g := gb188) (o := .cells #[.int .i64 0, .int .i64 0, .int .i64 0] 36 (0, 0)) (by (with_reducible repeat (first | refine z4q ?_ _ | refine z6q ?_ | refine z5q ?_ _)); exact BK188.out)) : gb188 ≠ gb192)); have n7_ := Aside0.mk ((by rw [hg]; exact Nat.ne_of_gt (z21q (g := gb188) (o := .cells #[.int .i64 0, .int .i64 0, .int .i64 0] 36 (0, 0)) (by (with_reducible repeat (first | refine z4q ?_ _ | refine z6q ?_ | refine z5q ?_ _)); exact BK188.out)) : gb192 ≠ gb188)); have n8_ := Aside0.mk ((by rw [hg]; exact Nat.ne_of_lt (z21q (g := gb190) (o := .cells #[.int .i64 x191000_2, .int .i64 x191001_2, .int .i64 x191002_2] 36 (0, 0)) (by (with_reducible repeat (first | refine z4q ?_ _ | refine z6q ?_ | refine z5q ?_ _)); exact BK190.out)) : gb190 ≠ gb192)); have n9_ := Aside0.mk ((by rw [hg]; exact Nat.ne_of_gt (z21q (g := gb190) (o := .cells #[.int .i64 x191000_2, .int .i64 x191001_2, .int .i64 x191002_2] 36 (0, 0)) (by (with_reducible repeat (first | refine z4q ?_ _ | refine z6q ?_ | refine z5q ?_ _)); exact BK190.out)) : gb192 ≠ gb190)); clear BK188; clear BK190; clear HB; have BK188 := n0_; have BK190 := n1_; have HB := n2_; have BK192 := n3_; have GW192 := n4_; have GE192 := n5_; have NB188_192 := n6_; have NB192_188 := n7_; have NB190_192 := n8_; have NB192_190 := n9_; clear n0_ n1_ n2_ n3_ n4_ n5_ n6_ n7_ n8_ n9_; clear hb hbox hg; have hnb19 := NB192_188.out; have hnc19 := NB188_192.out; have hnb20 := NB192_190.out; have hnc20 := NB190_192.out; have hcz21_0 : w18.cell? ⟨gb192, 0, none⟩ = some (.int .i64 0) := (z7q BK192.out 0).trans rfl; have hcz21_1 : w18.cell? ⟨gb192, 1, none⟩ = some (.int .i64 0) := (z7q BK192.out 1).trans rfl; have hcz21_2 : w18.cell? ⟨gb192, 2, none⟩ = some (.int .i64 0) := (z7q BK192.out 2).trans rfl; have hfz21_0 := z8q BK192.out 0; have hfz21_1 := z8q BK192.out 1; have hfz21_2 := z8q BK192.out 2) | ((with_reducible refine z9q (f := 66) rfl ?_); refine z17q (some 33) rfl rfl Tryd.func66 (by kernel_rfl) rfl #[.int .i64 a0, .int .i64 (wrap64 (x191000_2 + 1))] rfl (by (try simp only [map_toArray, map_cons, map_nil]); first | done | rfl | (simp only [length_drop, length_take]; rfl)) ?_; (with_reducible refine (spec_l2First.calls a0 (wrap64 (x191000_2 + 1)) t193 t194 _ A13.out).mono ?_); rintro e w' ⟨rfl, ⟨nd, rfl⟩⟩; refine ⟨_, rfl, ?_⟩; have hcz22_0 : w18.cell? ⟨gb190, 0, none⟩ = some (.int .i64 x191000_2) := (z7q BK190.out 0).trans rfl; have hcz22_1 : w18.cell? ⟨gb190, 1, none⟩ = some (.int .i64 x191001_2) := (z7q BK190.out 1).trans rfl; have hcz22_2 : w18.cell? ⟨gb190, 2, none⟩ = some (.int .i64 x191002_2) := (z7q BK190.out 2).trans rfl; have hfz22_0 := z8q BK190.out 0; have hfz22_1 := z8q BK190.out 1; have hfz22_2 := z8q BK190.out 2) | ((with_reducible refine z9q (f := 66) rfl ?_); refine z17q (some 44) rfl rfl Tryd.func66 (by kernel_rfl) rfl #[.int .i64 a0, .int .i64 x191000_2] rfl (by (try simp only [map_toArray, map_cons, map_nil]); first | done | rfl | (simp only [length_drop, length_take]; rfl)) ?_; (with_reducible refine (spec_l2First.calls a0 x191000_2 t195 t196 _ A15.out).mono ?_); rintro e w' ⟨rfl, ⟨nd, rfl⟩⟩; refine ⟨_, rfl, ?_⟩))
      go_loopg [11] k2 (fun kq v11 w' => ∃ (x11_3 : Int) (x191001_3 : Int), v11 = .int .i64 x11_3 ∧ Aside0 (spec_l2DateOf.l1 kq a0 x11_3 x191000_2 x191001_3 x191002_2 = some (r1, r2, r3)) ∧ Aside0 (kq ≤ k2) ∧ Aside0 (w'.heap[gb188]? = some (.cells #[.int .i64 0, .int .i64 0, .int .i64 0] 36 (0, 0))) ∧ Aside0 (w'.heap[gb190]? = some (.cells #[.int .i64 x191000_2, .int .i64 x191001_3, .int .i64 x191002_2] 36 (0, 0))) ∧ Aside0 (w'.heap[gb192]? = some (.cells #[.int .i64 (wrap64 (x191000_2 + 1)), .int .i64 x191001_2, .int .i64 x191002_2] 36 (0, 0))) ∧ Aside0 (Below w.heap.size w w'))
      case atStart => exact ⟨(wrap64 (a1 - t195)), (x191001_2), (by first | rfl | (simp; done) | (simp [*]; done) | (simp; unfold wrap64; omega)), H', ⟨Nat.le_refl _⟩, ⟨by (with_reducible repeat (first | refine z4q ?_ _ | refine z6q ?_ | refine z5q ?_ _)); refine z18q ?_ NB188_192.out _; (with_reducible repeat (first | refine z4q ?_ _ | refine z6q ?_ | refine z5q ?_ _)); refine z18q ?_ NB188_192.out _; (with_reducible repeat (first | refine z4q ?_ _ | refine z6q ?_ | refine z5q ?_ _)); refine z18q ?_ NB188_192.out _; (with_reducible repeat (first | refine z4q ?_ _ | refine z6q ?_ | refine z5q ?_ _)); refine z18q ?_ NB188_192.out _; (with_reducible repeat (first | refine z4q ?_ _ | refine z6q ?_ | refine z5q ?_ _)); exact BK188.out⟩, ⟨by (with_reducible repeat (first | refine z4q ?_ _ | refine z6q ?_ | refine z5q ?_ _)); refine z18q ?_ NB190_192.out _; (with_reducible repeat (first | refine z4q ?_ _ | refine z6q ?_ | refine z5q ?_ _)); refine z18q ?_ NB190_192.out _; (with_reducible repeat (first | refine z4q ?_ _ | refine z6q ?_ | refine z5q ?_ _)); refine z18q ?_ NB190_192.out _; (with_reducible repeat (first | refine z4q ?_ _ | refine z6q ?_ | refine z5q ?_ _)); refine z18q ?_ NB190_192.out _; (with_reducible repeat (first | refine z4q ?_ _ | refine z6q ?_ | refine z5q ?_ _)); exact BK190.out⟩, ⟨by (with_reducible repeat (first | refine z4q ?_ _ | refine z6q ?_ | refine z5q ?_ _)); refine z14q (cs := #[.int .i64 x191000_2, .int .i64 x191001_2, .int .i64 x191002_2]) ?_ 0 _ rfl; (with_reducible repeat (first | refine z4q ?_ _ | refine z6q ?_ | refine z5q ?_ _)); refine z14q (cs := #[.int .i64 x191000_2, .int .i64 x191001_2, .int .i64 0]) ?_ 2 _ rfl; (with_reducible repeat (first | refine z4q ?_ _ | refine z6q ?_ | refine z5q ?_ _)); refine z14q (cs := #[.int .i64 x191000_2, .int .i64 0, .int .i64 0]) ?_ 1 _ rfl; (with_reducible repeat (first | refine z4q ?_ _ | refine z6q ?_ | refine z5q ?_ _)); refine z14q (cs := #[.int .i64 0, .int .i64 0, .int .i64 0]) ?_ 0 _ rfl; (with_reducible repeat (first | refine z4q ?_ _ | refine z6q ?_ | refine z5q ?_ _)); exact BK192.out⟩, ⟨by repeat (first | (with_reducible first | exact HB.out | apply z2q | apply z0q | apply z1q | refine z3q ?_ GE188.out | refine z3q ?_ GE190.out | refine z3q ?_ GE192.out) | exact HB.out)⟩⟩
      case round =>
       clear H'
       try clear c1
       try clear c2
       try clear p2
       try clear c5
       try clear c6
       try clear p6
       try clear c7
       try clear c9
       try clear c9b0
       try clear c11
       try clear c14
       try clear c14b0
       try clear c16
       try clear c19
       try clear c20
       try clear hcz12_0
       try clear hcz12_1
       try clear hcz12_2
       try clear hcz17_0
       try clear hcz17_1
       try clear hcz17_2
       try clear hcz21_0
       try clear hcz21_1
       try clear hcz21_2
       try clear hcz22_0
       try clear hcz22_1
       try clear hcz22_2
       try clear hcz8_0
       try clear hcz8_1
       try clear hcz8_2
       try clear hfz12_0
       try clear hfz12_1
       try clear hfz12_2
       try clear hfz17_0
       try clear hfz17_1
       try clear hfz17_2
       try clear hfz21_0
       try clear hfz21_1
       try clear hfz21_2
       try clear hfz22_0
       try clear hfz22_1
       try clear hfz22_2
       try clear hfz8_0
       try clear hfz8_1
       try clear hfz8_2
       try clear p2
       try clear p6
       obtain ⟨x11_3, x191001_3, rfl, HA, HK3, BK188, BK190, BK192, HB⟩ := hrel
       cases gk with
       | zero => exact absurd HA.out (by simp [spec_l2DateOf.l1])
       | succ k3 =>
        have H := HA.out
        clear HA
        simp only [spec_l2DateOf.l1] at H
        replace H := Option.bind_eq_some_iff.mp H
        obtain ⟨t197, A230, H⟩ := H
        replace H : (if x11_3 ≥ t197 then ((spec_l2MonthDays.f a0 x191000_2 x191001_3).bind fun t198 => (spec_l2DateOf.l1 k3 a0 (wrap64 (x11_3 - t198)) x191000_2 (wrap64 (x191001_3 + 1)) x191002_2)) else (some (x191000_2, x191001_3, wrap64 (1 + x11_3)))) = some (r1, r2, r3) := H
        have A23 := Aside0.mk A230
        clear A230
        by_cases c24 : x11_3 ≥ t197
        ·rw [if_pos c24] at H
         have c24b0 : decide (t197 ≤ x11_3) = true := decide_eq_true c24
         clear c24
         replace H := Option.bind_eq_some_iff.mp H
         obtain ⟨t198, A250, H⟩ := H
         replace H : (spec_l2DateOf.l1 k3 a0 (wrap64 (x11_3 - t198)) x191000_2 (wrap64 (x191001_3 + 1)) x191002_2) = some (r1, r2, r3) := H
         have A25 := Aside0.mk A250
         clear A250
         have H' := Aside0.mk H
         clear H
         have hnb26 := NB190_188.out
         have hnc26 := NB188_190.out
         have hnb27 := NB190_192.out
         have hnc27 := NB192_190.out
         have hcz28_0 : wr.cell? ⟨gb190, 0, none⟩ = some (.int .i64 x191000_2) := (z7q BK190.out 0).trans rfl
         have hcz28_1 : wr.cell? ⟨gb190, 1, none⟩ = some (.int .i64 x191001_3) := (z7q BK190.out 1).trans rfl
         have hcz28_2 : wr.cell? ⟨gb190, 2, none⟩ = some (.int .i64 x191002_2) := (z7q BK190.out 2).trans rfl
         have hfz28_0 := z8q BK190.out 0
         have hfz28_1 := z8q BK190.out 1
         have hfz28_2 := z8q BK190.out 2
         go_wp2_with (first | ((with_reducible refine z9q (f := 77) rfl ?_); refine z17q (some 56) rfl rfl Tryd.func77 (by kernel_rfl) rfl #[.int .i64 a0, .int .i64 x191000_2, .int .i64 x191001_3] rfl (by (try simp only [map_toArray, map_cons, map_nil]); first | done | rfl | (simp only [length_drop, length_take]; rfl)) ?_; (with_reducible refine (spec_l2MonthDays.calls a0 x191000_2 x191001_3 t197 _ A23.out).mono ?_); rintro e w29 ⟨rfl, hb⟩; refine ⟨_, rfl, ?_⟩; have n0_ := Aside0.mk (z13q (g := gb188) (o := .cells #[.int .i64 0, .int .i64 0, .int .i64 0] 36 (0, 0)) (by (with_reducible repeat (first | refine z4q ?_ _ | refine z6q ?_ | refine z5q ?_ _)); exact BK188.out) hb); have n1_ := Aside0.mk (z13q (g := gb190) (o := .cells #[.int .i64 x191000_2, .int .i64 x191001_3, .int .i64 x191002_2] 36 (0, 0)) (by (with_reducible repeat (first | refine z4q ?_ _ | refine z6q ?_ | refine z5q ?_ _)); exact BK190.out) hb); have n2_ := Aside0.mk (z13q (g := gb192) (o := .cells #[.int .i64 (wrap64 (x191000_2 + 1)), .int .i64 x191001_2, .int .i64 x191002_2] 36 (0, 0)) (by (with_reducible repeat (first | refine z4q ?_ _ | refine z6q ?_ | refine z5q ?_ _)); exact BK192.out) hb); have n3_ := Aside0.mk (z11q (by repeat (first | (with_reducible first | exact HB.out | apply z2q | apply z0q | apply z1q | refine z3q ?_ GE188.out | refine z3q ?_ GE190.out | refine z3q ?_ GE192.out) | exact HB.out)) hb); clear BK188; clear BK190; clear BK192; clear HB; have BK188 := n0_; have BK190 := n1_; have BK192 := n2_; have HB := n3_; clear n0_ n1_ n2_ n3_; (try clear hb); (try clear hb2); (try clear hk); (try clear hi); have hcz30_0 : w29.cell? ⟨gb190, 0, none⟩ = some (.int .i64 x191000_2) := (z7q BK190.out 0).trans rfl; have hcz30_1 : w29.cell? ⟨gb190, 1, none⟩ = some (.int .i64 x191001_3) := (z7q BK190.out 1).trans rfl; have hcz30_2 : w29.cell? ⟨gb190, 2, none⟩ = some (.int .i64 x191002_2) := (z7q BK190.out 2).trans rfl; have hfz30_0 := z8q BK190.out 0; have hfz30_1 := z8q BK190.out 1; have hfz30_2 := z8q BK190.out 2) | ((with_reducible refine z9q (f := 77) rfl ?_); refine z17q (some 64) rfl rfl Tryd.func77 (by kernel_rfl) rfl #[.int .i64 a0, .int .i64 x191000_2, .int .i64 x191001_3] rfl (by (try simp only [map_toArray, map_cons, map_nil]); first | done | rfl | (simp only [length_drop, length_take]; rfl)) ?_; (with_reducible refine (spec_l2MonthDays.calls a0 x191000_2 x191001_3 t198 _ A25.out).mono ?_); rintro e w31 ⟨rfl, hb⟩; refine ⟨_, rfl, ?_⟩; have n0_ := Aside0.mk (z13q (g := gb188) (o := .cells #[.int .i64 0, .int .i64 0, .int .i64 0] 36 (0, 0)) (by (with_reducible repeat (first | refine z4q ?_ _ | refine z6q ?_ | refine z5q ?_ _)); exact BK188.out) hb); have n1_ := Aside0.mk (z13q (g := gb190) (o := .cells #[.int .i64 x191000_2, .int .i64 x191001_3, .int .i64 x191002_2] 36 (0, 0)) (by (with_reducible repeat (first | refine z4q ?_ _ | refine z6q ?_ | refine z5q ?_ _)); exact BK190.out) hb); have n2_ := Aside0.mk (z13q (g := gb192) (o := .cells #[.int .i64 (wrap64 (x191000_2 + 1)), .int .i64 x191001_2, .int .i64 x191002_2] 36 (0, 0)) (by (with_reducible repeat (first | refine z4q ?_ _ | refine z6q ?_ | refine z5q ?_ _)); exact BK192.out) hb); have n3_ := Aside0.mk (z11q (by repeat (first | (with_reducible first | exact HB.out | apply z2q | apply z0q | apply z1q | refine z3q ?_ GE188.out | refine z3q ?_ GE190.out | refine z3q ?_ GE192.out) | exact HB.out)) hb); clear BK188; clear BK190; clear BK192; clear HB; have BK188 := n0_; have BK190 := n1_; have BK192 := n2_; have HB := n3_; clear n0_ n1_ n2_ n3_; (try clear hb); (try clear hb2); (try clear hk); (try clear hi); have hcz32_0 : w31.cell? ⟨gb190, 0, none⟩ = some (.int .i64 x191000_2) := (z7q BK190.out 0).trans rfl; have hcz32_1 : w31.cell? ⟨gb190, 1, none⟩ = some (.int .i64 x191001_3) := (z7q BK190.out 1).trans rfl; have hcz32_2 : w31.cell? ⟨gb190, 2, none⟩ = some (.int .i64 x191002_2) := (z7q BK190.out 2).trans rfl; have hfz32_0 := z8q BK190.out 0; have hfz32_1 := z8q BK190.out 1; have hfz32_2 := z8q BK190.out 2))
         go_roundg k3
         case measure => have := HJ3.out; have := HK2.out; have := HK3.out; omega
         case rel => exact ⟨(wrap64 (x11_3 - t198)), (wrap64 (x191001_3 + 1)), (by first | rfl | (simp; done) | (simp [*]; done) | (simp; unfold wrap64; omega)), H', ⟨by have := HJ3.out; have := HK2.out; have := HK3.out; omega⟩, ⟨by (with_reducible repeat (first | refine z4q ?_ _ | refine z6q ?_ | refine z5q ?_ _)); refine z18q ?_ NB188_190.out _; (with_reducible repeat (first | refine z4q ?_ _ | refine z6q ?_ | refine z5q ?_ _)); exact BK188.out⟩, ⟨by (with_reducible repeat (first | refine z4q ?_ _ | refine z6q ?_ | refine z5q ?_ _)); refine z14q (cs := #[.int .i64 x191000_2, .int .i64 x191001_3, .int .i64 x191002_2]) ?_ 1 _ rfl; (with_reducible repeat (first | refine z4q ?_ _ | refine z6q ?_ | refine z5q ?_ _)); exact BK190.out⟩, ⟨by (with_reducible repeat (first | refine z4q ?_ _ | refine z6q ?_ | refine z5q ?_ _)); refine z18q ?_ NB192_190.out _; (with_reducible repeat (first | refine z4q ?_ _ | refine z6q ?_ | refine z5q ?_ _)); exact BK192.out⟩, ⟨by repeat (first | (with_reducible first | exact HB.out | apply z2q | apply z0q | apply z1q | refine z3q ?_ GE188.out | refine z3q ?_ GE190.out | refine z3q ?_ GE192.out) | exact HB.out)⟩⟩
        ·rw [if_neg c24] at H
         have c24b0 : decide (t197 ≤ x11_3) = false := decide_eq_false c24
         clear c24
         simp only [Option.some.injEq, Prod.mk.injEq] at H
         obtain ⟨rfl, rfl, rfl⟩ := H
         have hnb33 := NB190_188.out
         have hnc33 := NB188_190.out
         have hnb34 := NB190_192.out
         have hnc34 := NB192_190.out
         have hcz35_0 : wr.cell? ⟨gb190, 0, none⟩ = some (.int .i64 x191000_2) := (z7q BK190.out 0).trans rfl
         have hcz35_1 : wr.cell? ⟨gb190, 1, none⟩ = some (.int .i64 x191001_3) := (z7q BK190.out 1).trans rfl
         have hcz35_2 : wr.cell? ⟨gb190, 2, none⟩ = some (.int .i64 x191002_2) := (z7q BK190.out 2).trans rfl
         have hfz35_0 := z8q BK190.out 0
         have hfz35_1 := z8q BK190.out 1
         have hfz35_2 := z8q BK190.out 2
         go_wp2_with (first | ((with_reducible refine z9q (f := 77) rfl ?_); refine z17q (some 56) rfl rfl Tryd.func77 (by kernel_rfl) rfl #[.int .i64 a0, .int .i64 x191000_2, .int .i64 x191001_3] rfl (by (try simp only [map_toArray, map_cons, map_nil]); first | done | rfl | (simp only [length_drop, length_take]; rfl)) ?_; (with_reducible refine (spec_l2MonthDays.calls a0 x191000_2 x191001_3 t197 _ A23.out).mono ?_); rintro e w36 ⟨rfl, hb⟩; refine ⟨_, rfl, ?_⟩; have n0_ := Aside0.mk (z13q (g := gb188) (o := .cells #[.int .i64 0, .int .i64 0, .int .i64 0] 36 (0, 0)) (by (with_reducible repeat (first | refine z4q ?_ _ | refine z6q ?_ | refine z5q ?_ _)); exact BK188.out) hb); have n1_ := Aside0.mk (z13q (g := gb190) (o := .cells #[.int .i64 x191000_2, .int .i64 x191001_3, .int .i64 x191002_2] 36 (0, 0)) (by (with_reducible repeat (first | refine z4q ?_ _ | refine z6q ?_ | refine z5q ?_ _)); exact BK190.out) hb); have n2_ := Aside0.mk (z13q (g := gb192) (o := .cells #[.int .i64 (wrap64 (x191000_2 + 1)), .int .i64 x191001_2, .int .i64 x191002_2] 36 (0, 0)) (by (with_reducible repeat (first | refine z4q ?_ _ | refine z6q ?_ | refine z5q ?_ _)); exact BK192.out) hb); have n3_ := Aside0.mk (z11q (by repeat (first | (with_reducible first | exact HB.out | apply z2q | apply z0q | apply z1q | refine z3q ?_ GE188.out | refine z3q ?_ GE190.out | refine z3q ?_ GE192.out) | exact HB.out)) hb); clear BK188; clear BK190; clear BK192; clear HB; have BK188 := n0_; have BK190 := n1_; have BK192 := n2_; have HB := n3_; clear n0_ n1_ n2_ n3_; (try clear hb); (try clear hb2); (try clear hk); (try clear hi); have hcz37_0 : w36.cell? ⟨gb190, 0, none⟩ = some (.int .i64 x191000_2) := (z7q BK190.out 0).trans rfl; have hcz37_1 : w36.cell? ⟨gb190, 1, none⟩ = some (.int .i64 x191001_3) := (z7q BK190.out 1).trans rfl; have hcz37_2 : w36.cell? ⟨gb190, 2, none⟩ = some (.int .i64 x191002_2) := (z7q BK190.out 2).trans rfl; have hfz37_0 := z8q BK190.out 0; have hfz37_1 := z8q BK190.out 1; have hfz37_2 := z8q BK190.out 2; have hnb38 := NB188_192.out; have hnc38 := NB192_188.out; have hcz39_0 : w36.cell? ⟨gb188, 0, none⟩ = some (.int .i64 0) := (z7q BK188.out 0).trans rfl; have hcz39_1 : w36.cell? ⟨gb188, 1, none⟩ = some (.int .i64 0) := (z7q BK188.out 1).trans rfl; have hcz39_2 : w36.cell? ⟨gb188, 2, none⟩ = some (.int .i64 0) := (z7q BK188.out 2).trans rfl; have hfz39_0 := z8q BK188.out 0; have hfz39_1 := z8q BK188.out 1; have hfz39_2 := z8q BK188.out 2))
         refine bodyPost_ret (results_cell_row rfl _ _ gb188 36 #[.int .i64 x191000_2, .int .i64 x191001_3, .int .i64 (wrap64 (1 + x11_3))] (0, 0) _ rfl (by (with_reducible repeat (first | refine z4q ?_ _ | refine z6q ?_ | refine z5q ?_ _)); refine z14q (cs := #[.int .i64 x191000_2, .int .i64 x191001_3, .int .i64 0]) ?_ 2 _ rfl; (with_reducible repeat (first | refine z4q ?_ _ | refine z6q ?_ | refine z5q ?_ _)); refine z14q (cs := #[.int .i64 x191000_2, .int .i64 0, .int .i64 0]) ?_ 1 _ rfl; (with_reducible repeat (first | refine z4q ?_ _ | refine z6q ?_ | refine z5q ?_ _)); refine z14q (cs := #[.int .i64 0, .int .i64 0, .int .i64 0]) ?_ 0 _ rfl; (with_reducible repeat (first | refine z4q ?_ _ | refine z6q ?_ | refine z5q ?_ _)); refine z18q ?_ NB188_190.out _; (with_reducible repeat (first | refine z4q ?_ _ | refine z6q ?_ | refine z5q ?_ _)); exact BK188.out) Tryd.underlying36 rfl (by kernel_rfl)) rfl ?_
         exact ⟨by first | rfl | (simp [errW_none, errW_some] <;> rfl) | (simp [*, errW_none, errW_some] <;> rfl), by repeat (first | (with_reducible first | exact HB.out | apply z2q | apply z0q | apply z1q | refine z3q ?_ GE188.out | refine z3q ?_ GE190.out | refine z3q ?_ GE192.out) | exact HB.out)⟩
     ·rw [if_neg c14] at H
      have c14b0 : decide (a1 < t193) = false := decide_eq_false c14
      clear c14
      have H' := Aside0.mk H
      clear H
      have hnb40 := NB190_188.out
      have hnc40 := NB188_190.out
      have hcz41_0 : wr.cell? ⟨gb190, 0, none⟩ = some (.int .i64 x191000_2) := (z7q BK190.out 0).trans rfl
      have hcz41_1 : wr.cell? ⟨gb190, 1, none⟩ = some (.int .i64 x191001_2) := (z7q BK190.out 1).trans rfl
      have hcz41_2 : wr.cell? ⟨gb190, 2, none⟩ = some (.int .i64 x191002_2) := (z7q BK190.out 2).trans rfl
      have hfz41_0 := z8q BK190.out 0
      have hfz41_1 := z8q BK190.out 1
      have hfz41_2 := z8q BK190.out 2
      go_wp2_with (first | ((with_reducible refine z22q (N := 6) rfl ?_); refine z20q ?hg (N := 6) ?hd (cs := #[.int .i64 0, .int .i64 0, .int .i64 0]) (t := 36) ?hr ?_; (case hd => rfl); (case hg => rfl); (case hr => first | (go_simp; done) | (go_simp; rfl)); intro gb192 hg w42 hbox hb; have n0_ := Aside0.mk (z13q (g := gb188) (o := .cells #[.int .i64 0, .int .i64 0, .int .i64 0] 36 (0, 0)) (by (with_reducible repeat (first | refine z4q ?_ _ | refine z6q ?_ | refine z5q ?_ _)); exact BK188.out) hb); have n1_ := Aside0.mk (z13q (g := gb190) (o := .cells #[.int .i64 x191000_2, .int .i64 x191001_2, .int .i64 x191002_2] 36 (0, 0)) (by (with_reducible repeat (first | refine z4q ?_ _ | refine z6q ?_ | refine z5q ?_ _)); exact BK190.out) hb); have n2_ := Aside0.mk (z11q (by repeat (first | (with_reducible first | exact HB.out | apply z2q | apply z0q | apply z1q | refine z3q ?_ GE188.out | refine z3q ?_ GE190.out) | exact HB.out)) hb); have n3_ := Aside0.mk (hbox); have n4_ := Aside0.mk ((by rw [hg]; exact (z12q (by repeat (first | (with_reducible first | exact HB.out | apply z2q | apply z0q | apply z1q | refine z3q ?_ GE188.out | refine z3q ?_ GE190.out) | exact HB.out))) : w.heap.size ≤ gb192)); have n5_ := Aside0.mk ((by rw [hg]; exact (z12q (by repeat (first | (with_reducible first | exact HB.out | apply z2q | apply z0q | apply z1q | refine z3q ?_ GE188.out | refine z3q ?_ GE190.out) | exact HB.out))) : w.heap.size ≤ gb192)); have n6_ := Aside0.mk ((by rw [hg]; exact Nat.ne_of_lt (z21q (g := gb188) (o := .cells #[.int .i64 0, .int .i64 0, .int .i64 0] 36 (0, 0)) (by (with_reducible repeat (first | refine z4q ?_ _ | refine z6q ?_ | refine z5q ?_ _)); exact BK188.out)) : gb188 ≠ gb192)); have n7_ := Aside0.mk ((by rw [hg]; exact Nat.ne_of_gt (z21q (g := gb188) (o := .cells #[.int .i64 0, .int .i64 0, .int .i64 0] 36 (0, 0)) (by (with_reducible repeat (first | refine z4q ?_ _ | refine z6q ?_ | refine z5q ?_ _)); exact BK188.out)) : gb192 ≠ gb188)); have n8_ := Aside0.mk ((by rw [hg]; exact Nat.ne_of_lt (z21q (g := gb190) (o := .cells #[.int .i64 x191000_2, .int .i64 x191001_2, .int .i64 x191002_2] 36 (0, 0)) (by (with_reducible repeat (first | refine z4q ?_ _ | refine z6q ?_ | refine z5q ?_ _)); exact BK190.out)) : gb190 ≠ gb192)); have n9_ := Aside0.mk ((by rw [hg]; exact Nat.ne_of_gt (z21q (g := gb190) (o := .cells #[.int .i64 x191000_2, .int .i64 x191001_2, .int .i64 x191002_2] 36 (0, 0)) (by (with_reducible repeat (first | refine z4q ?_ _ | refine z6q ?_ | refine z5q ?_ _)); exact BK190.out)) : gb192 ≠ gb190)); clear BK188; clear BK190; clear HB; have BK188 := n0_; have BK190 := n1_; have HB := n2_; have BK192 := n3_; have GW192 := n4_; have GE192 := n5_; have NB188_192 := n6_; have NB192_188 := n7_; have NB190_192 := n8_; have NB192_190 := n9_; clear n0_ n1_ n2_ n3_ n4_ n5_ n6_ n7_ n8_ n9_; clear hb hbox hg; have hnb43 := NB192_188.out; have hnc43 := NB188_192.out; have hnb44 := NB192_190.out; have hnc44 := NB190_192.out; have hcz45_0 : w42.cell? ⟨gb192, 0, none⟩ = some (.int .i64 0) := (z7q BK192.out 0).trans rfl; have hcz45_1 : w42.cell? ⟨gb192, 1, none⟩ = some (.int .i64 0) := (z7q BK192.out 1).trans rfl; have hcz45_2 : w42.cell? ⟨gb192, 2, none⟩ = some (.int .i64 0) := (z7q BK192.out 2).trans rfl; have hfz45_0 := z8q BK192.out 0; have hfz45_1 := z8q BK192.out 1; have hfz45_2 := z8q BK192.out 2) | ((with_reducible refine z9q (f := 66) rfl ?_); refine z17q (some 33) rfl rfl Tryd.func66 (by kernel_rfl) rfl #[.int .i64 a0, .int .i64 (wrap64 (x191000_2 + 1))] rfl (by (try simp only [map_toArray, map_cons, map_nil]); first | done | rfl | (simp only [length_drop, length_take]; rfl)) ?_; (with_reducible refine (spec_l2First.calls a0 (wrap64 (x191000_2 + 1)) t193 t194 _ A13.out).mono ?_); rintro e w' ⟨rfl, ⟨nd, rfl⟩⟩; refine ⟨_, rfl, ?_⟩; have hcz46_0 : w42.cell? ⟨gb190, 0, none⟩ = some (.int .i64 x191000_2) := (z7q BK190.out 0).trans rfl; have hcz46_1 : w42.cell? ⟨gb190, 1, none⟩ = some (.int .i64 x191001_2) := (z7q BK190.out 1).trans rfl; have hcz46_2 : w42.cell? ⟨gb190, 2, none⟩ = some (.int .i64 x191002_2) := (z7q BK190.out 2).trans rfl; have hfz46_0 := z8q BK190.out 0; have hfz46_1 := z8q BK190.out 1; have hfz46_2 := z8q BK190.out 2))
      go_roundg k2
      case measure => have := HJ3.out; have := HK2.out; omega
      case rel => exact ⟨(wrap64 (x191000_2 + 1)), (x191001_2), (x191002_2), H', ⟨by have := HJ3.out; have := HK2.out; omega⟩, ⟨by (with_reducible repeat (first | refine z4q ?_ _ | refine z6q ?_ | refine z5q ?_ _)); refine z18q ?_ NB188_190.out _; (with_reducible repeat (first | refine z4q ?_ _ | refine z6q ?_ | refine z5q ?_ _)); refine z18q ?_ NB188_190.out _; (with_reducible repeat (first | refine z4q ?_ _ | refine z6q ?_ | refine z5q ?_ _)); refine z18q ?_ NB188_190.out _; (with_reducible repeat (first | refine z4q ?_ _ | refine z6q ?_ | refine z5q ?_ _)); refine z18q ?_ NB188_192.out _; (with_reducible repeat (first | refine z4q ?_ _ | refine z6q ?_ | refine z5q ?_ _)); refine z18q ?_ NB188_192.out _; (with_reducible repeat (first | refine z4q ?_ _ | refine z6q ?_ | refine z5q ?_ _)); refine z18q ?_ NB188_192.out _; (with_reducible repeat (first | refine z4q ?_ _ | refine z6q ?_ | refine z5q ?_ _)); refine z18q ?_ NB188_192.out _; (with_reducible repeat (first | refine z4q ?_ _ | refine z6q ?_ | refine z5q ?_ _)); exact BK188.out⟩, ⟨by (with_reducible repeat (first | refine z4q ?_ _ | refine z6q ?_ | refine z5q ?_ _)); refine z14q (cs := #[.int .i64 (wrap64 (x191000_2 + 1)), .int .i64 x191001_2, .int .i64 x191002_2]) ?_ 2 _ rfl; (with_reducible repeat (first | refine z4q ?_ _ | refine z6q ?_ | refine z5q ?_ _)); refine z14q (cs := #[.int .i64 (wrap64 (x191000_2 + 1)), .int .i64 x191001_2, .int .i64 x191002_2]) ?_ 1 _ rfl; (with_reducible repeat (first | refine z4q ?_ _ | refine z6q ?_ | refine z5q ?_ _)); refine z14q (cs := #[.int .i64 x191000_2, .int .i64 x191001_2, .int .i64 x191002_2]) ?_ 0 _ rfl; (with_reducible repeat (first | refine z4q ?_ _ | refine z6q ?_ | refine z5q ?_ _)); refine z18q ?_ NB190_192.out _; (with_reducible repeat (first | refine z4q ?_ _ | refine z6q ?_ | refine z5q ?_ _)); refine z18q ?_ NB190_192.out _; (with_reducible repeat (first | refine z4q ?_ _ | refine z6q ?_ | refine z5q ?_ _)); refine z18q ?_ NB190_192.out _; (with_reducible repeat (first | refine z4q ?_ _ | refine z6q ?_ | refine z5q ?_ _)); refine z18q ?_ NB190_192.out _; (with_reducible repeat (first | refine z4q ?_ _ | refine z6q ?_ | refine z5q ?_ _)); exact BK190.out⟩, ⟨by repeat (first | (with_reducible first | exact HB.out | apply z2q | apply z0q | apply z1q | refine z3q ?_ GE188.out | refine z3q ?_ GE190.out | refine z3q ?_ GE192.out) | exact HB.out)⟩⟩

set_option maxHeartbeats 8000000 in
set_option maxRecDepth 100000 in
theorem spec_l2DateOf.calls (k : Nat) (a0 : Int) (a1 : Int) (r1 : Int) (r2 : Int) (r3 : Int) (w : World) (h : spec_l2DateOf.f k a0 a1 = some (r1, r2, r3)) :
  Calls Tryd.prog 57 #[.int .i64 a0, .int .i64 a1] w fun e w' => e = .returned (.agg #[.int .i64 r1, .int .i64 r2, .int .i64 r3]) ∧ Below w.heap.size w w' := by
 have H : ((spec_l2Floor.f a1 366).bind fun t189 => (if a1 < 0 then ((spec_l2Floor.f a1 365).bind fun t191 => (spec_l2DateOf.j0 k a0 a1 (wrap64 ((wrap64 (2000 + t191)) - 2)) 1 1)) else (spec_l2DateOf.j0 k a0 a1 (wrap64 ((wrap64 (2000 + t189)) - 1)) 1 1))) = some (r1, r2, r3) := h
 replace H := Option.bind_eq_some_iff.mp H
 obtain ⟨t189, A30, H⟩ := H
 replace H : (if a1 < 0 then ((spec_l2Floor.f a1 365).bind fun t191 => (spec_l2DateOf.j0 k a0 a1 (wrap64 ((wrap64 (2000 + t191)) - 2)) 1 1)) else (spec_l2DateOf.j0 k a0 a1 (wrap64 ((wrap64 (2000 + t189)) - 1)) 1 1)) = some (r1, r2, r3) := H
 have A3 := Aside0.mk A30
 clear A30
 exact spec_l2DateOf.calls_p1 k a0 a1 r1 r2 r3 w t189 A3 H

/-! ### spec_DateOf: function 18 -/

def spec_DateOf.f (k : Nat) (a0 : Int) (a1 : Int) : Option (Int × Int × Int) := (spec_l2Cal.f a0).bind fun t200 => (if t200 = true then ((spec_l2Day.f a1).bind fun t201 => (if t201 = true then ((spec_l2DateOf.f k a0 a1).bind fun bt202 => (some (bt202.1, bt202.2.1, bt202.2.2))) else (some (0, 0, 0)))) else (some (0, 0, 0)))

set_option maxHeartbeats 8000000 in
set_option maxRecDepth 100000 in
theorem spec_DateOf.calls (k : Nat) (a0 : Int) (a1 : Int) (r1 : Int) (r2 : Int) (r3 : Int) (w : World) (h : spec_DateOf.f k a0 a1 = some (r1, r2, r3)) :
  Calls Tryd.prog 18 #[.int .i64 a0, .int .i64 a1] w fun e w' => e = .returned (.agg #[.int .i64 r1, .int .i64 r2, .int .i64 r3]) ∧ Below w.heap.size w w' := by
 have hu36 := Tryd.underlying36
 have HB := Aside0.mk (Below.refl w.heap.size w)
 have H : ((spec_l2Cal.f a0).bind fun t200 => (if t200 = true then ((spec_l2Day.f a1).bind fun t201 => (if t201 = true then ((spec_l2DateOf.f k a0 a1).bind fun bt202 => (some (bt202.1, bt202.2.1, bt202.2.2))) else (some (0, 0, 0)))) else (some (0, 0, 0)))) = some (r1, r2, r3) := h
 clear h
 replace H := Option.bind_eq_some_iff.mp H
 obtain ⟨t200, A30, H⟩ := H
 replace H : (if t200 = true then ((spec_l2Day.f a1).bind fun t201 => (if t201 = true then ((spec_l2DateOf.f k a0 a1).bind fun bt202 => (some (bt202.1, bt202.2.1, bt202.2.2))) else (some (0, 0, 0)))) else (some (0, 0, 0))) = some (r1, r2, r3) := H
 have A3 := Aside0.mk A30
 clear A30
 by_cases c4 : t200 = true
 ·subst c4
  have H1 : ((spec_l2Day.f a1).bind fun t201 => (if t201 = true then ((spec_l2DateOf.f k a0 a1).bind fun bt202 => (some (bt202.1, bt202.2.1, bt202.2.2))) else (some (0, 0, 0)))) = some (r1, r2, r3) := by rw [if_pos rfl] at H; exact H
  clear H
  have H := H1
  clear H1
  replace H := Option.bind_eq_some_iff.mp H
  obtain ⟨t201, A50, H⟩ := H
  replace H : (if t201 = true then ((spec_l2DateOf.f k a0 a1).bind fun bt202 => (some (bt202.1, bt202.2.1, bt202.2.2))) else (some (0, 0, 0))) = some (r1, r2, r3) := H
  have A5 := Aside0.mk A50
  clear A50
  by_cases c6 : t201 = true
  ·subst c6
   have H1 : ((spec_l2DateOf.f k a0 a1).bind fun bt202 => (some (bt202.1, bt202.2.1, bt202.2.2))) = some (r1, r2, r3) := by rw [if_pos rfl] at H; exact H
   clear H
   have H := H1
   clear H1
   replace H := Option.bind_eq_some_iff.mp H
   obtain ⟨⟨t202, t203, t204⟩, A70, H⟩ := H
   replace H : (some (t202, t203, t204)) = some (r1, r2, r3) := H
   have A7 := Aside0.mk A70
   clear A70
   simp only [Option.some.injEq, Prod.mk.injEq] at H
   obtain ⟨rfl, rfl, rfl⟩ := H
   go_enter Tryd.func18, Tryd.ntmps18
   go_wp2_with (first | ((with_reducible refine z22q (N := 4) rfl ?_); refine z20q ?hg (N := 4) ?hd (cs := #[.int .i64 0, .int .i64 0, .int .i64 0]) (t := 36) ?hr ?_; (case hd => rfl); (case hg => rfl); (case hr => first | (go_simp; done) | (go_simp; rfl)); intro gb199 hg w8 hbox hb; have n0_ := Aside0.mk (z11q (by repeat (first | (with_reducible first | exact HB.out | apply z2q | apply z0q | apply z1q) | exact HB.out)) hb); have n1_ := Aside0.mk (hbox); have n2_ := Aside0.mk ((by rw [hg]; exact (z12q (by repeat (first | (with_reducible first | exact HB.out | apply z2q | apply z0q | apply z1q) | exact HB.out))) : w.heap.size ≤ gb199)); have n3_ := Aside0.mk ((by rw [hg]; exact (z12q (by repeat (first | (with_reducible first | exact HB.out | apply z2q | apply z0q | apply z1q) | exact HB.out))) : w.heap.size ≤ gb199)); clear HB; have HB := n0_; have BK199 := n1_; have GW199 := n2_; have GE199 := n3_; clear n0_ n1_ n2_ n3_; clear hb hbox hg) | ((with_reducible refine z9q (f := 55) rfl ?_); refine z17q (some 6) rfl rfl Tryd.func55 (by kernel_rfl) rfl #[.int .i64 a0] rfl (by (try simp only [map_toArray, map_cons, map_nil]); first | done | rfl | (simp only [length_drop, length_take]; rfl)) ?_; (with_reducible refine (spec_l2Cal.calls a0 true _ A3.out).mono ?_); rintro e w' ⟨rfl, ⟨nd, rfl⟩⟩; refine ⟨_, rfl, ?_⟩; (try (rw [drewN_self w8]; generalize hq_ : World.drewN w8 _ = w8; have n0_ : Aside0 (w8.heap[gb199]? = some (.cells #[.int .i64 0, .int .i64 0, .int .i64 0] 36 (0, 0))) := ⟨by rw [← hq_]; exact (by (with_reducible repeat (first | refine z4q ?_ _ | refine z6q ?_ | refine z5q ?_ _)); exact BK199.out)⟩; have n1_ : Aside0 (Below w.heap.size w w8) := ⟨by rw [← hq_]; exact (by repeat (first | (with_reducible first | exact HB.out | apply z2q | apply z0q | apply z1q | refine z3q ?_ GE199.out) | exact HB.out))⟩; clear BK199 HB hq_; have BK199 := n0_; have HB := n1_; clear n0_ n1_))) | (go_at_call 56; (with_reducible refine (spec_l2Day.calls a1 true _ A5.out).mono ?_); rintro e w' ⟨rfl, ⟨nd, rfl⟩⟩; (try (rw [drewN_self w8]; generalize hq_ : World.drewN w8 _ = w8; have n0_ : Aside0 (w8.heap[gb199]? = some (.cells #[.int .i64 0, .int .i64 0, .int .i64 0] 36 (0, 0))) := ⟨by rw [← hq_]; exact (by (with_reducible repeat (first | refine z4q ?_ _ | refine z6q ?_ | refine z5q ?_ _)); exact BK199.out)⟩; have n1_ : Aside0 (Below w.heap.size w w8) := ⟨by rw [← hq_]; exact (by repeat (first | (with_reducible first | exact HB.out | apply z2q | apply z0q | apply z1q | refine z3q ?_ GE199.out) | exact HB.out))⟩; clear BK199 HB hq_; have BK199 := n0_; have HB := n1_; clear n0_ n1_))) | ((with_reducible refine z9q (f := 57) rfl ?_); refine z17q (some 16) rfl rfl Tryd.func57 (by kernel_rfl) rfl #[.int .i64 a0, .int .i64 a1] rfl (by (try simp only [map_toArray, map_cons, map_nil]); first | done | rfl | (simp only [length_drop, length_take]; rfl)) ?_; (with_reducible refine (spec_l2DateOf.calls k a0 a1 t202 t203 t204 _ A7.out).mono ?_); rintro e w9 ⟨rfl, hb⟩; refine ⟨_, rfl, ?_⟩; have n0_ := Aside0.mk (z13q (g := gb199) (o := .cells #[.int .i64 0, .int .i64 0, .int .i64 0] 36 (0, 0)) (by (with_reducible repeat (first | refine z4q ?_ _ | refine z6q ?_ | refine z5q ?_ _)); exact BK199.out) hb); have n1_ := Aside0.mk (z11q (by repeat (first | (with_reducible first | exact HB.out | apply z2q | apply z0q | apply z1q | refine z3q ?_ GE199.out) | exact HB.out)) hb); clear BK199; clear HB; have BK199 := n0_; have HB := n1_; clear n0_ n1_; (try clear hb); (try clear hb2); (try clear hk); (try clear hi); have hcz10_0 : w9.cell? ⟨gb199, 0, none⟩ = some (.int .i64 0) := (z7q BK199.out 0).trans rfl; have hcz10_1 : w9.cell? ⟨gb199, 1, none⟩ = some (.int .i64 0) := (z7q BK199.out 1).trans rfl; have hcz10_2 : w9.cell? ⟨gb199, 2, none⟩ = some (.int .i64 0) := (z7q BK199.out 2).trans rfl; have hfz10_0 := z8q BK199.out 0; have hfz10_1 := z8q BK199.out 1; have hfz10_2 := z8q BK199.out 2))
   refine bodyPost_ret (results_cell_row rfl _ _ gb199 36 #[.int .i64 t202, .int .i64 t203, .int .i64 t204] (0, 0) _ rfl (by (with_reducible repeat (first | refine z4q ?_ _ | refine z6q ?_ | refine z5q ?_ _)); refine z14q (cs := #[.int .i64 t202, .int .i64 t203, .int .i64 0]) ?_ 2 _ rfl; (with_reducible repeat (first | refine z4q ?_ _ | refine z6q ?_ | refine z5q ?_ _)); refine z14q (cs := #[.int .i64 t202, .int .i64 0, .int .i64 0]) ?_ 1 _ rfl; (with_reducible repeat (first | refine z4q ?_ _ | refine z6q ?_ | refine z5q ?_ _)); refine z14q (cs := #[.int .i64 0, .int .i64 0, .int .i64 0]) ?_ 0 _ rfl; (with_reducible repeat (first | refine z4q ?_ _ | refine z6q ?_ | refine z5q ?_ _)); exact BK199.out) Tryd.underlying36 rfl (by kernel_rfl)) rfl ?_
   exact ⟨by first | rfl | (simp [errW_none, errW_some] <;> rfl) | (simp [*, errW_none, errW_some] <;> rfl), by repeat (first | (with_reducible first | exact HB.out | apply z2q | apply z0q | apply z1q | refine z3q ?_ GE199.out) | exact HB.out)⟩
  ·replace c6 := Bool.eq_false_iff.mpr c6
   subst c6
   have H1 : (some (0, 0, 0)) = some (r1, r2, r3) := by rw [if_neg (show ¬ (false = true) by decide)] at H; exact H
   clear H
   have H := H1
   clear H1
   simp only [Option.some.injEq, Prod.mk.injEq] at H
   obtain ⟨rfl, rfl, rfl⟩ := H
   go_enter Tryd.func18, Tryd.ntmps18
   go_wp2_with (first | ((with_reducible refine z22q (N := 4) rfl ?_); refine z20q ?hg (N := 4) ?hd (cs := #[.int .i64 0, .int .i64 0, .int .i64 0]) (t := 36) ?hr ?_; (case hd => rfl); (case hg => rfl); (case hr => first | (go_simp; done) | (go_simp; rfl)); intro gb199 hg w11 hbox hb; have n0_ := Aside0.mk (z11q (by repeat (first | (with_reducible first | exact HB.out | apply z2q | apply z0q | apply z1q) | exact HB.out)) hb); have n1_ := Aside0.mk (hbox); have n2_ := Aside0.mk ((by rw [hg]; exact (z12q (by repeat (first | (with_reducible first | exact HB.out | apply z2q | apply z0q | apply z1q) | exact HB.out))) : w.heap.size ≤ gb199)); have n3_ := Aside0.mk ((by rw [hg]; exact (z12q (by repeat (first | (with_reducible first | exact HB.out | apply z2q | apply z0q | apply z1q) | exact HB.out))) : w.heap.size ≤ gb199)); clear HB; have HB := n0_; have BK199 := n1_; have GW199 := n2_; have GE199 := n3_; clear n0_ n1_ n2_ n3_; clear hb hbox hg) | ((with_reducible refine z9q (f := 55) rfl ?_); refine z17q (some 6) rfl rfl Tryd.func55 (by kernel_rfl) rfl #[.int .i64 a0] rfl (by (try simp only [map_toArray, map_cons, map_nil]); first | done | rfl | (simp only [length_drop, length_take]; rfl)) ?_; (with_reducible refine (spec_l2Cal.calls a0 true _ A3.out).mono ?_); rintro e w' ⟨rfl, ⟨nd, rfl⟩⟩; refine ⟨_, rfl, ?_⟩; (try (rw [drewN_self w11]; generalize hq_ : World.drewN w11 _ = w11; have n0_ : Aside0 (w11.heap[gb199]? = some (.cells #[.int .i64 0, .int .i64 0, .int .i64 0] 36 (0, 0))) := ⟨by rw [← hq_]; exact (by (with_reducible repeat (first | refine z4q ?_ _ | refine z6q ?_ | refine z5q ?_ _)); exact BK199.out)⟩; have n1_ : Aside0 (Below w.heap.size w w11) := ⟨by rw [← hq_]; exact (by repeat (first | (with_reducible first | exact HB.out | apply z2q | apply z0q | apply z1q | refine z3q ?_ GE199.out) | exact HB.out))⟩; clear BK199 HB hq_; have BK199 := n0_; have HB := n1_; clear n0_ n1_))) | (go_at_call 56; (with_reducible refine (spec_l2Day.calls a1 false _ A5.out).mono ?_); rintro e w' ⟨rfl, ⟨nd, rfl⟩⟩; (try (rw [drewN_self w11]; generalize hq_ : World.drewN w11 _ = w11; have n0_ : Aside0 (w11.heap[gb199]? = some (.cells #[.int .i64 0, .int .i64 0, .int .i64 0] 36 (0, 0))) := ⟨by rw [← hq_]; exact (by (with_reducible repeat (first | refine z4q ?_ _ | refine z6q ?_ | refine z5q ?_ _)); exact BK199.out)⟩; have n1_ : Aside0 (Below w.heap.size w w11) := ⟨by rw [← hq_]; exact (by repeat (first | (with_reducible first | exact HB.out | apply z2q | apply z0q | apply z1q | refine z3q ?_ GE199.out) | exact HB.out))⟩; clear BK199 HB hq_; have BK199 := n0_; have HB := n1_; clear n0_ n1_)); have hcz12_0 : w11.cell? ⟨gb199, 0, none⟩ = some (.int .i64 0) := (z7q BK199.out 0).trans rfl; have hcz12_1 : w11.cell? ⟨gb199, 1, none⟩ = some (.int .i64 0) := (z7q BK199.out 1).trans rfl; have hcz12_2 : w11.cell? ⟨gb199, 2, none⟩ = some (.int .i64 0) := (z7q BK199.out 2).trans rfl; have hfz12_0 := z8q BK199.out 0; have hfz12_1 := z8q BK199.out 1; have hfz12_2 := z8q BK199.out 2))
   refine bodyPost_ret (results_cell_row rfl _ _ gb199 36 #[.int .i64 0, .int .i64 0, .int .i64 0] (0, 0) _ rfl (by (with_reducible repeat (first | refine z4q ?_ _ | refine z6q ?_ | refine z5q ?_ _)); refine z14q (cs := #[.int .i64 0, .int .i64 0, .int .i64 0]) ?_ 2 _ rfl; (with_reducible repeat (first | refine z4q ?_ _ | refine z6q ?_ | refine z5q ?_ _)); refine z14q (cs := #[.int .i64 0, .int .i64 0, .int .i64 0]) ?_ 1 _ rfl; (with_reducible repeat (first | refine z4q ?_ _ | refine z6q ?_ | refine z5q ?_ _)); refine z14q (cs := #[.int .i64 0, .int .i64 0, .int .i64 0]) ?_ 0 _ rfl; (with_reducible repeat (first | refine z4q ?_ _ | refine z6q ?_ | refine z5q ?_ _)); exact BK199.out) Tryd.underlying36 rfl (by kernel_rfl)) rfl ?_
   exact ⟨by first | rfl | (simp [errW_none, errW_some] <;> rfl) | (simp [*, errW_none, errW_some] <;> rfl), by repeat (first | (with_reducible first | exact HB.out | apply z2q | apply z0q | apply z1q | refine z3q ?_ GE199.out) | exact HB.out)⟩
 ·replace c4 := Bool.eq_false_iff.mpr c4
  subst c4
  have H1 : (some (0, 0, 0)) = some (r1, r2, r3) := by rw [if_neg (show ¬ (false = true) by decide)] at H; exact H
  clear H
  have H := H1
  clear H1
  simp only [Option.some.injEq, Prod.mk.injEq] at H
  obtain ⟨rfl, rfl, rfl⟩ := H
  go_enter Tryd.func18, Tryd.ntmps18
  go_wp2_with (first | ((with_reducible refine z22q (N := 4) rfl ?_); refine z20q ?hg (N := 4) ?hd (cs := #[.int .i64 0, .int .i64 0, .int .i64 0]) (t := 36) ?hr ?_; (case hd => rfl); (case hg => rfl); (case hr => first | (go_simp; done) | (go_simp; rfl)); intro gb199 hg w13 hbox hb; have n0_ := Aside0.mk (z11q (by repeat (first | (with_reducible first | exact HB.out | apply z2q | apply z0q | apply z1q) | exact HB.out)) hb); have n1_ := Aside0.mk (hbox); have n2_ := Aside0.mk ((by rw [hg]; exact (z12q (by repeat (first | (with_reducible first | exact HB.out | apply z2q | apply z0q | apply z1q) | exact HB.out))) : w.heap.size ≤ gb199)); have n3_ := Aside0.mk ((by rw [hg]; exact (z12q (by repeat (first | (with_reducible first | exact HB.out | apply z2q | apply z0q | apply z1q) | exact HB.out))) : w.heap.size ≤ gb199)); clear HB; have HB := n0_; have BK199 := n1_; have GW199 := n2_; have GE199 := n3_; clear n0_ n1_ n2_ n3_; clear hb hbox hg) | ((with_reducible refine z9q (f := 55) rfl ?_); refine z17q (some 6) rfl rfl Tryd.func55 (by kernel_rfl) rfl #[.int .i64 a0] rfl (by (try simp only [map_toArray, map_cons, map_nil]); first | done | rfl | (simp only [length_drop, length_take]; rfl)) ?_; (with_reducible refine (spec_l2Cal.calls a0 false _ A3.out).mono ?_); rintro e w' ⟨rfl, ⟨nd, rfl⟩⟩; refine ⟨_, rfl, ?_⟩; (try (rw [drewN_self w13]; generalize hq_ : World.drewN w13 _ = w13; have n0_ : Aside0 (w13.heap[gb199]? = some (.cells #[.int .i64 0, .int .i64 0, .int .i64 0] 36 (0, 0))) := ⟨by rw [← hq_]; exact (by (with_reducible repeat (first | refine z4q ?_ _ | refine z6q ?_ | refine z5q ?_ _)); exact BK199.out)⟩; have n1_ : Aside0 (Below w.heap.size w w13) := ⟨by rw [← hq_]; exact (by repeat (first | (with_reducible first | exact HB.out | apply z2q | apply z0q | apply z1q | refine z3q ?_ GE199.out) | exact HB.out))⟩; clear BK199 HB hq_; have BK199 := n0_; have HB := n1_; clear n0_ n1_)); have hcz14_0 : w13.cell? ⟨gb199, 0, none⟩ = some (.int .i64 0) := (z7q BK199.out 0).trans rfl; have hcz14_1 : w13.cell? ⟨gb199, 1, none⟩ = some (.int .i64 0) := (z7q BK199.out 1).trans rfl; have hcz14_2 : w13.cell? ⟨gb199, 2, none⟩ = some (.int .i64 0) := (z7q BK199.out 2).trans rfl; have hfz14_0 := z8q BK199.out 0; have hfz14_1 := z8q BK199.out 1; have hfz14_2 := z8q BK199.out 2))
  refine bodyPost_ret (results_cell_row rfl _ _ gb199 36 #[.int .i64 0, .int .i64 0, .int .i64 0] (0, 0) _ rfl (by (with_reducible repeat (first | refine z4q ?_ _ | refine z6q ?_ | refine z5q ?_ _)); refine z14q (cs := #[.int .i64 0, .int .i64 0, .int .i64 0]) ?_ 2 _ rfl; (with_reducible repeat (first | refine z4q ?_ _ | refine z6q ?_ | refine z5q ?_ _)); refine z14q (cs := #[.int .i64 0, .int .i64 0, .int .i64 0]) ?_ 1 _ rfl; (with_reducible repeat (first | refine z4q ?_ _ | refine z6q ?_ | refine z5q ?_ _)); refine z14q (cs := #[.int .i64 0, .int .i64 0, .int .i64 0]) ?_ 0 _ rfl; (with_reducible repeat (first | refine z4q ?_ _ | refine z6q ?_ | refine z5q ?_ _)); exact BK199.out) Tryd.underlying36 rfl (by kernel_rfl)) rfl ?_
  exact ⟨by first | rfl | (simp [errW_none, errW_some] <;> rfl) | (simp [*, errW_none, errW_some] <;> rfl), by repeat (first | (with_reducible first | exact HB.out | apply z2q | apply z0q | apply z1q | refine z3q ?_ GE199.out) | exact HB.out)⟩



/-! ### impl_floorMod_int: function 58 -/

def impl_floorMod_int.f (a0 : Int) (a1 : Int) : Option (Int) := (impl_floorDiv_int.f a0 a1).bind fun t205 => (some (wrap64 (a0 - (wrap64 (t205 * a1)))))

set_option maxHeartbeats 8000000 in
set_option maxRecDepth 100000 in
theorem impl_floorMod_int.calls (a0 : Int) (a1 : Int) (r : Int) (w : World) (h : impl_floorMod_int.f a0 a1 = some r) :
  Calls Tryd.prog 58 #[.int .i64 a0, .int .i64 a1] w fun e w' => e = .returned (.int .i64 r) ∧ Drawn0 w w' := by
 have H : ((impl_floorDiv_int.f a0 a1).bind fun t205 => (some (wrap64 (a0 - (wrap64 (t205 * a1)))))) = some r := h
 clear h
 replace H := Option.bind_eq_some_iff.mp H
 obtain ⟨t205, A30, H⟩ := H
 replace H : (some (wrap64 (a0 - (wrap64 (t205 * a1))))) = some r := H
 have A3 := Aside0.mk A30
 clear A30
 obtain rfl := Option.some.inj H
 go_enter Tryd.func58, Tryd.ntmps58
 go_wp2_with (first | ((with_reducible refine z9q (f := 73) rfl ?_); refine z17q (some 8) rfl rfl Tryd.func73 (by kernel_rfl) rfl #[.int .i64 a0, .int .i64 a1] rfl (by (try simp only [map_toArray, map_cons, map_nil]); first | done | rfl | (simp only [length_drop, length_take]; rfl)) ?_; (with_reducible refine (impl_floorDiv_int.calls a0 a1 t205 _ A3.out).mono ?_); rintro e w' ⟨rfl, ⟨nd, rfl⟩⟩; refine ⟨_, rfl, ?_⟩))
 go_ret
 exact ⟨by first | rfl | (simp; done) | (simp [*]; done), by repeat (first | exact Drawn0.refl _ | apply Drawn0.step)⟩



/-! ### impl_Weekday: function 19 -/

def impl_Weekday.f (a0 : Int) : Option (Int) := (impl_isDay.f a0).bind fun t206 => (if t206 = true then ((impl_floorMod_int.f (wrap64 (a0 + 5)) 7).bind fun t207 => (some t207)) else (some (-1)))

set_option maxHeartbeats 8000000 in
set_option maxRecDepth 100000 in
theorem impl_Weekday.calls (a0 : Int) (r : Int) (w : World) (h : impl_Weekday.f a0 = some r) :
  Calls Tryd.prog 19 #[.int .i64 a0] w fun e w' => e = .returned (.int .i64 r) ∧ Drawn0 w w' := by
 have H : ((impl_isDay.f a0).bind fun t206 => (if t206 = true then ((impl_floorMod_int.f (wrap64 (a0 + 5)) 7).bind fun t207 => (some t207)) else (some (-1)))) = some r := h
 clear h
 replace H := Option.bind_eq_some_iff.mp H
 obtain ⟨t206, A20, H⟩ := H
 replace H : (if t206 = true then ((impl_floorMod_int.f (wrap64 (a0 + 5)) 7).bind fun t207 => (some t207)) else (some (-1))) = some r := H
 have A2 := Aside0.mk A20
 clear A20
 by_cases c3 : t206 = true
 ·subst c3
  have H1 : ((impl_floorMod_int.f (wrap64 (a0 + 5)) 7).bind fun t207 => (some t207)) = some r := by rw [if_pos rfl] at H; exact H
  clear H
  have H := H1
  clear H1
  replace H := Option.bind_eq_some_iff.mp H
  obtain ⟨t207, A40, H⟩ := H
  replace H : (some t207) = some r := H
  have A4 := Aside0.mk A40
  clear A40
  obtain rfl := Option.some.inj H
  go_enter Tryd.func19, Tryd.ntmps19
  go_wp2_with (first | ((with_reducible refine z9q (f := 53) rfl ?_); refine z17q (some 4) rfl rfl Tryd.func53 (by kernel_rfl) rfl #[.int .i64 a0] rfl (by (try simp only [map_toArray, map_cons, map_nil]); first | done | rfl | (simp only [length_drop, length_take]; rfl)) ?_; (with_reducible refine (impl_isDay.calls a0 true _ A2.out).mono ?_); rintro e w' ⟨rfl, ⟨nd, rfl⟩⟩; refine ⟨_, rfl, ?_⟩) | ((with_reducible refine z9q (f := 58) rfl ?_); refine z17q (some 8) rfl rfl Tryd.func58 (by kernel_rfl) rfl #[.int .i64 (wrap64 (a0 + 5)), .int .i64 7] rfl (by (try simp only [map_toArray, map_cons, map_nil]); first | done | rfl | (simp only [length_drop, length_take]; rfl)) ?_; (with_reducible refine (impl_floorMod_int.calls (wrap64 (a0 + 5)) 7 t207 _ A4.out).mono ?_); rintro e w' ⟨rfl, ⟨nd, rfl⟩⟩; refine ⟨_, rfl, ?_⟩))
  go_ret
  exact ⟨by first | rfl | (simp; done) | (simp [*]; done), by repeat (first | exact Drawn0.refl _ | apply Drawn0.step)⟩
 ·replace c3 := Bool.eq_false_iff.mpr c3
  subst c3
  have H1 : (some (-1)) = some r := by rw [if_neg (show ¬ (false = true) by decide)] at H; exact H
  clear H
  have H := H1
  clear H1
  obtain rfl := Option.some.inj H
  go_enter Tryd.func19, Tryd.ntmps19
  go_wp2_with (first | ((with_reducible refine z9q (f := 53) rfl ?_); refine z17q (some 4) rfl rfl Tryd.func53 (by kernel_rfl) rfl #[.int .i64 a0] rfl (by (try simp only [map_toArray, map_cons, map_nil]); first | done | rfl | (simp only [length_drop, length_take]; rfl)) ?_; (with_reducible refine (impl_isDay.calls a0 false _ A2.out).mono ?_); rintro e w' ⟨rfl, ⟨nd, rfl⟩⟩; refine ⟨_, rfl, ?_⟩))
  go_ret
  exact ⟨by first | rfl | (simp; done) | (simp [*]; done), by repeat (first | exact Drawn0.refl _ | apply Drawn0.step)⟩



/-! ### spec_Weekday: function 20 -/

def spec_Weekday.f (a0 : Int) : Option (Int) := (spec_l2Day.f a0).bind fun t208 => (if t208 = true then ((spec_l2Mod.f (wrap64 (a0 + 5)) 7).bind fun t209 => (some t209)) else (some (-1)))

set_option maxHeartbeats 8000000 in
set_option maxRecDepth 100000 in
theorem spec_Weekday.calls (a0 : Int) (r : Int) (w : World) (h : spec_Weekday.f a0 = some r) :
  Calls Tryd.prog 20 #[.int .i64 a0] w fun e w' => e = .returned (.int .i64 r) ∧ Drawn0 w w' := by
 have H : ((spec_l2Day.f a0).bind fun t208 => (if t208 = true then ((spec_l2Mod.f (wrap64 (a0 + 5)) 7).bind fun t209 => (some t209)) else (some (-1)))) = some r := h
 clear h
 replace H := Option.bind_eq_some_iff.mp H
 obtain ⟨t208, A20, H⟩ := H
 replace H : (if t208 = true then ((spec_l2Mod.f (wrap64 (a0 + 5)) 7).bind fun t209 => (some t209)) else (some (-1))) = some r := H
 have A2 := Aside0.mk A20
 clear A20
 by_cases c3 : t208 = true
 ·subst c3
  have H1 : ((spec_l2Mod.f (wrap64 (a0 + 5)) 7).bind fun t209 => (some t209)) = some r := by rw [if_pos rfl] at H; exact H
  clear H
  have H := H1
  clear H1
  replace H := Option.bind_eq_some_iff.mp H
  obtain ⟨t209, A40, H⟩ := H
  replace H : (some t209) = some r := H
  have A4 := Aside0.mk A40
  clear A40
  obtain rfl := Option.some.inj H
  go_enter Tryd.func20, Tryd.ntmps20
  go_wp2_with (first | ((with_reducible refine z9q (f := 56) rfl ?_); refine z17q (some 4) rfl rfl Tryd.func56 (by kernel_rfl) rfl #[.int .i64 a0] rfl (by (try simp only [map_toArray, map_cons, map_nil]); first | done | rfl | (simp only [length_drop, length_take]; rfl)) ?_; (with_reducible refine (spec_l2Day.calls a0 true _ A2.out).mono ?_); rintro e w' ⟨rfl, ⟨nd, rfl⟩⟩; refine ⟨_, rfl, ?_⟩) | ((with_reducible refine z9q (f := 59) rfl ?_); refine z17q (some 8) rfl rfl Tryd.func59 (by kernel_rfl) rfl #[.int .i64 (wrap64 (a0 + 5)), .int .i64 7] rfl (by (try simp only [map_toArray, map_cons, map_nil]); first | done | rfl | (simp only [length_drop, length_take]; rfl)) ?_; (with_reducible refine (spec_l2Mod.calls (wrap64 (a0 + 5)) 7 t209 _ A4.out).mono ?_); rintro e w' ⟨rfl, ⟨nd, rfl⟩⟩; refine ⟨_, rfl, ?_⟩))
  go_ret
  exact ⟨by first | rfl | (simp; done) | (simp [*]; done), by repeat (first | exact Drawn0.refl _ | apply Drawn0.step)⟩
 ·replace c3 := Bool.eq_false_iff.mpr c3
  subst c3
  have H1 : (some (-1)) = some r := by rw [if_neg (show ¬ (false = true) by decide)] at H; exact H
  clear H
  have H := H1
  clear H1
  obtain rfl := Option.some.inj H
  go_enter Tryd.func20, Tryd.ntmps20
  go_wp2_with (first | ((with_reducible refine z9q (f := 56) rfl ?_); refine z17q (some 4) rfl rfl Tryd.func56 (by kernel_rfl) rfl #[.int .i64 a0] rfl (by (try simp only [map_toArray, map_cons, map_nil]); first | done | rfl | (simp only [length_drop, length_take]; rfl)) ?_; (with_reducible refine (spec_l2Day.calls a0 false _ A2.out).mono ?_); rintro e w' ⟨rfl, ⟨nd, rfl⟩⟩; refine ⟨_, rfl, ?_⟩))
  go_ret
  exact ⟨by first | rfl | (simp; done) | (simp [*]; done), by repeat (first | exact Drawn0.refl _ | apply Drawn0.step)⟩



/-! ### impl_goodYear: function 63 -/

def impl_goodYear.f (a0 : Int) (a1 : Int) : Option (Bool) := if a0 = 1 then (if a1 ≥ (-5000) then (some (decide (a1 ≤ 9999))) else (some false)) else (if a0 = 2 then (if a1 ≥ (-5000) then (some (decide (a1 ≤ 9999))) else (some false)) else (some false))

set_option maxHeartbeats 8000000 in
set_option maxRecDepth 100000 in
theorem impl_goodYear.calls (a0 : Int) (a1 : Int) (r : Bool) (w : World) (h : impl_goodYear.f a0 a1 = some r) :
  Calls Tryd.prog 63 #[.int .i64 a0, .int .i64 a1] w fun e w' => e = .returned (.bool r) ∧ Drawn0 w w' := by
 have H : (if a0 = 1 then (if a1 ≥ (-5000) then (some (decide (a1 ≤ 9999))) else (some false)) else (if a0 = 2 then (if a1 ≥ (-5000) then (some (decide (a1 ≤ 9999))) else (some false)) else (some false))) = some r := h
 clear h
 by_cases c3 : a0 = 1
 ·rw [if_pos c3] at H
  have c3b0 : (a0 == 1) = true := beq_iff_eq.mpr c3
  have c3b1 : (a0 != 1) = false := bne_eq_false_iff_eq.mpr c3
  clear c3
  by_cases c4 : a1 ≥ (-5000)
  ·rw [if_pos c4] at H
   have c4b0 : decide ((-5000) ≤ a1) = true := decide_eq_true c4
   clear c4
   obtain rfl := Option.some.inj H
   go_enter Tryd.func63, Tryd.ntmps63
   go_wp2
   go_ret
   exact ⟨by first | rfl | (simp; done) | (simp [*]; done), by repeat (first | exact Drawn0.refl _ | apply Drawn0.step)⟩
  ·rw [if_neg c4] at H
   have c4b0 : decide ((-5000) ≤ a1) = false := decide_eq_false c4
   clear c4
   obtain rfl := Option.some.inj H
   go_enter Tryd.func63, Tryd.ntmps63
   go_wp2
   go_ret
   exact ⟨by first | rfl | (simp; done) | (simp [*]; done), by repeat (first | exact Drawn0.refl _ | apply Drawn0.step)⟩
 ·rw [if_neg c3] at H
  have c3b0 : (a0 == 1) = false := beq_eq_false_iff_ne.mpr c3
  have c3b1 : (a0 != 1) = true := bne_iff_ne.mpr c3
  by_cases c5 : a0 = 2
  ·rw [if_pos c5] at H
   have c5b0 : (a0 == 2) = true := beq_iff_eq.mpr c5
   have c5b1 : (a0 != 2) = false := bne_eq_false_iff_eq.mpr c5
   clear c5
   by_cases c6 : a1 ≥ (-5000)
   ·rw [if_pos c6] at H
    have c6b0 : decide ((-5000) ≤ a1) = true := decide_eq_true c6
    clear c6
    obtain rfl := Option.some.inj H
    go_enter Tryd.func63, Tryd.ntmps63
    go_wp2
    go_ret
    exact ⟨by first | rfl | (simp; done) | (simp [*]; done), by repeat (first | exact Drawn0.refl _ | apply Drawn0.step)⟩
   ·rw [if_neg c6] at H
    have c6b0 : decide ((-5000) ≤ a1) = false := decide_eq_false c6
    clear c6
    obtain rfl := Option.some.inj H
    go_enter Tryd.func63, Tryd.ntmps63
    go_wp2
    go_ret
    exact ⟨by first | rfl | (simp; done) | (simp [*]; done), by repeat (first | exact Drawn0.refl _ | apply Drawn0.step)⟩
  ·rw [if_neg c5] at H
   have c5b0 : (a0 == 2) = false := beq_eq_false_iff_ne.mpr c5
   have c5b1 : (a0 != 2) = true := bne_iff_ne.mpr c5
   obtain rfl := Option.some.inj H
   go_enter Tryd.func63, Tryd.ntmps63
   go_wp2
   go_ret
   exact ⟨by first | rfl | (simp; done) | (simp [*]; done), by repeat (first | exact Drawn0.refl _ | apply Drawn0.step)⟩



/-! ### impl_isDate: function 60 -/

def impl_isDate.f (a0 : Int) (a1_0 : Int) (a1_1 : Int) (a1_2 : Int) : Option (Bool) := if a1_1 ≥ 1 then (if a1_1 ≤ 12 then (if a1_2 ≥ 1 then ((impl_goodYear.f a0 a1_0).bind fun t211 => (if t211 = true then ((impl_monthDays.f a0 a1_0 a1_1).bind fun t212 => (some (decide (a1_2 ≤ t212)))) else (some false))) else (some false)) else (some false)) else (some false)

def impl_isDate.T1 : Bool × List (List Nat × List Nat) := (true, [([], []), ([0], [0]), ([1], [1]), ([2], [2]), ([3], [3]), ([4, 3], [3, 4]), ([5, 3], [3, 5]), ([3, 6], [3, 6]), ([7, 3], [7]), ([8], [8]), ([9, 8], [8, 9]), ([10, 8], [8, 10]), ([8, 11], [8, 11]), ([12, 8], [12]), ([13], [13]), ([13], [13]), ([15, 13], [13, 15]), ([14, 16, 13, 13], [13, 14, 16]), ([13, 17], [13, 17]), ([18, 17], [18]), ([19], [19]), ([20, 19], [19, 20]), ([19], [19]), ([19], [19]), ([23, 19], [19, 23]), ([19], [19]), ([25, 19], [19, 25]), ([22, 24, 26, 19, 19], [19, 22, 24, 26]), ([21, 27, 19], [19, 21, 27]), ([19, 28], [19, 28]), ([29, 27, 0, 1, 2, 3, 4, 5, 6, 7, 8, 9, 10, 11, 12, 13, 14, 15, 16, 17, 18, 19, 20, 21, 22, 23, 24, 25, 26, 27, 28, 29], [29])])

def impl_isDate.B1 : List Nat := [0, 1, 3, 7, 15, 31, 63, 127, 255, 511, 1023, 2047, 4095, 8191, 16383, 16383, 49151, 131071, 262143, 524287, 1048575, 2097151, 1048575, 1048575, 9437183, 1048575, 34603007, 131071999, 268435455, 536870911, 1073741823]

theorem impl_isDate.tab1 : rtab .any (opsOf Tryd.f60 1) = impl_isDate.T1 := by kernel_rfl

theorem impl_isDate.bits1 : waitsOk impl_isDate.T1.2 impl_isDate.B1 = true := by kernel_rfl

end Go.Proofs.YtffamggcjijobaaDoor.PFnDays
