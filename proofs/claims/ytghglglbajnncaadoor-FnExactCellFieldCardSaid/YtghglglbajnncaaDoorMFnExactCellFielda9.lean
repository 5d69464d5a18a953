/- Functions of the program as Lean functions, and proofs that the Go code comes to their answers: for the law FnExactCellField; made out of the print by a program of mine (doorprint.py), with walks of my own in the place of some functions. No conditions but each theorem's own. -/
import Derived.Test.YtghglglbajnncaaDoorMFnExactCellFielda0
import Derived.Test.YtghglglbajnncaaDoorMFnExactCellFielda8
namespace Go.Proofs.YtghglglbajnncaaDoor.PFnExactCellField
open Go.RowKit Go.Proofs.YtghglglbajnncaaDoorW.PrintWords Go.Proofs.YtghglglbajnncaaDoorW.PrintLast Go.Proofs.YtghglglbajnncaaDoorW.PrintMore
attribute [local go_sem] max2_int min2_int max_two min_two max_three min_three max_four min_four   -- for this text's walks alone
set_option linter.unusedVariables false
set_option linter.unusedSimpArgs false

/-! ### impl_DecText: function 26 -/
mutual
def impl_DecText.j0 : Nat → ByteArray → ByteArray → Bool → Int → Int → Option (ByteArray)
  | 0, _, _, _, _, _ => none
  | k + 1, x3, x4, x300000, x300001, x300002 => if x300002 ≥ 0 then (impl_DecText.j1 k x3 x4 (x3.size : Int) (decide ((wrap64 ((x3.size : Int) + x300002)) ≤ 15)) x300000 x300001 x300002) else (impl_DecText.j1 k x3 x4 (x3.size : Int) false x300000 x300001 x300002)
def impl_DecText.j1 : Nat → ByteArray → ByteArray → Int → Bool → Bool → Int → Int → Option (ByteArray)
  | 0, _, _, _, _, _, _, _ => none
  | k + 1, x3, x4, x5, x18, x300000, x300001, x300002 => if x18 = true then (if x4.size + x3.size ≤ 9223372036854775807 then ((strings_Repeat.f (⟨#[48]⟩ : ByteArray) x300002).bind fun t302 => (if (x4 ++ x3).size + t302.size ≤ 9223372036854775807 then (some ((x4 ++ x3) ++ t302)) else (none))) else (none)) else (if x300002 < 0 then (impl_DecText.j2 k x3 x4 x5 (decide ((wrap64 ((wrap64 (x5 + x300002)) - 1)) ≥ (-5))) x300000 x300001 x300002) else (impl_DecText.j2 k x3 x4 x5 false x300000 x300001 x300002))
def impl_DecText.j2 : Nat → ByteArray → ByteArray → Int → Bool → Bool → Int → Int → Option (ByteArray)
  | 0, _, _, _, _, _, _, _ => none
  | k + 1, x3, x4, x5, x36, x300000, x300001, x300002 => if x36 = true then (if (wrap64 (x5 + x300002)) > 0 then (if 0 ≤ (wrap64 (x5 + x300002)) then (if (wrap64 (x5 + x300002)) ≤ (x3.size : Int) then (if x4.size + (x3.extract 0 ((wrap64 (x5 + x300002)) : Int).toNat).size ≤ 9223372036854775807 then (if (x4 ++ (x3.extract 0 ((wrap64 (x5 + x300002)) : Int).toNat)).size + 1 ≤ 9223372036854775807 then (if ((x4 ++ (x3.extract 0 ((wrap64 (x5 + x300002)) : Int).toNat)) ++ (⟨#[46]⟩ : ByteArray)).size + (x3.extract ((wrap64 (x5 + x300002)) : Int).toNat x3.size).size ≤ 9223372036854775807 then (some (((x4 ++ (x3.extract 0 ((wrap64 (x5 + x300002)) : Int).toNat)) ++ (⟨#[46]⟩ : ByteArray)) ++ (x3.extract ((wrap64 (x5 + x300002)) : Int).toNat x3.size))) else (none)) else (none)) else (none)) else (none)) else (none)) else (if x4.size + 2 ≤ 9223372036854775807 then ((strings_Repeat.f (⟨#[48]⟩ : ByteArray) (wrap64 (-(wrap64 (x5 + x300002))))).bind fun t303 => (if (x4 ++ (⟨#[48, 46]⟩ : ByteArray)).size + t303.size ≤ 9223372036854775807 then (if ((x4 ++ (⟨#[48, 46]⟩ : ByteArray)) ++ t303).size + x3.size ≤ 9223372036854775807 then (some (((x4 ++ (⟨#[48, 46]⟩ : ByteArray)) ++ t303) ++ x3)) else (none)) else (none))) else (none))) else (if 0 ≤ 1 then (if 1 ≤ (x3.size : Int) then (if x4.size + (x3.extract 0 1).size ≤ 9223372036854775807 then (if x5 > 1 then (if 1 + (x3.extract 1 x3.size).size ≤ 9223372036854775807 then (if (x4 ++ (x3.extract 0 1)).size + ((⟨#[46]⟩ : ByteArray) ++ (x3.extract 1 x3.size)).size ≤ 9223372036854775807 then (impl_DecText.j3 k (wrap64 ((wrap64 (x5 - 1)) + x300002)) ((x4 ++ (x3.extract 0 1)) ++ ((⟨#[46]⟩ : ByteArray) ++ (x3.extract 1 x3.size)))) else (none)) else (none)) else (impl_DecText.j3 k (wrap64 ((wrap64 (x5 - 1)) + x300002)) (x4 ++ (x3.extract 0 1)))) else (none)) else (none)) else (none))
def impl_DecText.j3 : Nat → Int → ByteArray → Option (ByteArray)
  | 0, _, _ => none
  | k + 1, x6, x7 => if x6 < 0 then (if x7.size + 2 ≤ 9223372036854775807 then ((strconv_Itoa.f (wrap64 (-x6))).bind fun t304 => (if (x7 ++ (⟨#[69, 45]⟩ : ByteArray)).size + t304.size ≤ 9223372036854775807 then (some ((x7 ++ (⟨#[69, 45]⟩ : ByteArray)) ++ t304)) else (none))) else (none)) else (if x7.size + 2 ≤ 9223372036854775807 then ((strconv_Itoa.f x6).bind fun t305 => (if (x7 ++ (⟨#[69, 43]⟩ : ByteArray)).size + t305.size ≤ 9223372036854775807 then (some ((x7 ++ (⟨#[69, 43]⟩ : ByteArray)) ++ t305)) else (none))) else (none))
end
def impl_DecText.f (k : Nat) (a0_0 : Bool) (a0_1 : Int) (a0_2 : Int) : Option (ByteArray) := (impl_isGoodDec.f a0_0 a0_1 a0_2).bind fun t300 => (if t300 = true then ((strconv_Itoa.f a0_1).bind fun t301 => (if a0_0 = true then (impl_DecText.j0 k t301 (⟨#[45]⟩ : ByteArray) a0_0 a0_1 a0_2) else (impl_DecText.j0 k t301 (⟨#[]⟩ : ByteArray) a0_0 a0_1 a0_2))) else (some (⟨#[]⟩ : ByteArray)))
theorem impl_DecText.mono_l : ∀ k, (∀ y0 y1 y2 y3 y4, LeO (impl_DecText.j0 k y0 y1 y2 y3 y4) (impl_DecText.j0 (k + 1) y0 y1 y2 y3 y4)) ∧ (∀ y0 y1 y2 y3 y4 y5 y6, LeO (impl_DecText.j1 k y0 y1 y2 y3 y4 y5 y6) (impl_DecText.j1 (k + 1) y0 y1 y2 y3 y4 y5 y6)) ∧ (∀ y0 y1 y2 y3 y4 y5 y6, LeO (impl_DecText.j2 k y0 y1 y2 y3 y4 y5 y6) (impl_DecText.j2 (k + 1) y0 y1 y2 y3 y4 y5 y6)) ∧ (∀ y0 y1, LeO (impl_DecText.j3 k y0 y1) (impl_DecText.j3 (k + 1) y0 y1))
  | 0 => ⟨fun _ _ _ _ _ r h => by simp [impl_DecText.j0] at h, fun _ _ _ _ _ _ _ r h => by simp [impl_DecText.j1] at h, fun _ _ _ _ _ _ _ r h => by simp [impl_DecText.j2] at h, fun _ _ r h => by simp [impl_DecText.j3] at h⟩
  | k + 1 => by
    obtain ⟨ih0, ih1, ih2, ih3⟩ := impl_DecText.mono_l k
    refine ⟨?_, ?_, ?_, ?_⟩
    · intro y0 y1 y2 y3 y4
      unfold impl_DecText.j0
      repeat' first
      | (with_reducible exact ih0 _ _ _ _ _)
      | (with_reducible exact ih1 _ _ _ _ _ _ _)
      | (with_reducible exact ih2 _ _ _ _ _ _ _)
      | (with_reducible exact ih3 _ _)
      | (with_reducible exact LeO.refl _)
      | (with_reducible exact LeO.none _)
      | (with_reducible refine LeO.ite ?_ ?_)
      | (with_reducible refine LeO.bind ?_ (fun _ => ?_))
      | exact ih0 _ _ _ _ _
      | exact ih1 _ _ _ _ _ _ _
      | exact ih2 _ _ _ _ _ _ _
      | exact ih3 _ _
      | exact LeO.none _
      | refine LeO.ite ?_ ?_
      | refine LeO.bind ?_ (fun _ => ?_)
    · intro y0 y1 y2 y3 y4 y5 y6
      unfold impl_DecText.j1
      repeat' first
      | (with_reducible exact ih0 _ _ _ _ _)
      | (with_reducible exact ih1 _ _ _ _ _ _ _)
      | (with_reducible exact ih2 _ _ _ _ _ _ _)
      | (with_reducible exact ih3 _ _)
      | (with_reducible exact LeO.refl _)
      | (with_reducible exact LeO.none _)
      | (with_reducible refine LeO.ite ?_ ?_)
      | (with_reducible refine LeO.bind ?_ (fun _ => ?_))
      | exact ih0 _ _ _ _ _
      | exact ih1 _ _ _ _ _ _ _
      | exact ih2 _ _ _ _ _ _ _
      | exact ih3 _ _
      | exact LeO.none _
      | refine LeO.ite ?_ ?_
      | refine LeO.bind ?_ (fun _ => ?_)
    · intro y0 y1 y2 y3 y4 y5 y6
      unfold impl_DecText.j2
      repeat' first
      | (with_reducible exact ih0 _ _ _ _ _)
      | (with_reducible exact ih1 _ _ _ _ _ _ _)
      | (with_reducible exact ih2 _ _ _ _ _ _ _)
      | (with_reducible exact ih3 _ _)
      | (with_reducible exact LeO.refl _)
      | (with_reducible exact LeO.none _)
      | (with_reducible refine LeO.ite ?_ ?_)
      | (with_reducible refine LeO.bind ?_ (fun _ => ?_))
      | exact ih0 _ _ _ _ _
      | exact ih1 _ _ _ _ _ _ _
      | exact ih2 _ _ _ _ _ _ _
      | exact ih3 _ _
      | exact LeO.none _
      | refine LeO.ite ?_ ?_
      | refine LeO.bind ?_ (fun _ => ?_)
    · intro y0 y1
      unfold impl_DecText.j3
      repeat' first
      | (with_reducible exact ih0 _ _ _ _ _)
      | (with_reducible exact ih1 _ _ _ _ _ _ _)
      | (with_reducible exact ih2 _ _ _ _ _ _ _)
      | (with_reducible exact ih3 _ _)
      | (with_reducible exact LeO.refl _)
      | (with_reducible exact LeO.none _)
      | (with_reducible refine LeO.ite ?_ ?_)
      | (with_reducible refine LeO.bind ?_ (fun _ => ?_))
      | exact ih0 _ _ _ _ _
      | exact ih1 _ _ _ _ _ _ _
      | exact ih2 _ _ _ _ _ _ _
      | exact ih3 _ _
      | exact LeO.none _
      | refine LeO.ite ?_ ?_
      | refine LeO.bind ?_ (fun _ => ?_)
theorem impl_DecText.mono : ∀ a0 a1 a2 k, LeO (impl_DecText.f k a0 a1 a2) (impl_DecText.f (k + 1) a0 a1 a2) := by
  intro a0 a1 a2 k
  obtain ⟨ih0, ih1, ih2, ih3⟩ := impl_DecText.mono_l k
  unfold impl_DecText.f
  repeat' first
      | (with_reducible exact ih0 _ _ _ _ _)
      | (with_reducible exact ih1 _ _ _ _ _ _ _)
      | (with_reducible exact ih2 _ _ _ _ _ _ _)
      | (with_reducible exact ih3 _ _)
      | (with_reducible exact LeO.refl _)
      | (with_reducible exact LeO.none _)
      | (with_reducible refine LeO.ite ?_ ?_)
      | (with_reducible refine LeO.bind ?_ (fun _ => ?_))
      | exact ih0 _ _ _ _ _
      | exact ih1 _ _ _ _ _ _ _
      | exact ih2 _ _ _ _ _ _ _
      | exact ih3 _ _
      | exact LeO.none _
      | refine LeO.ite ?_ ?_
      | refine LeO.bind ?_ (fun _ => ?_)
set_option maxHeartbeats 8000000 in
set_option maxRecDepth 100000 in
theorem impl_DecText.calls (k : Nat) (a0_0 : Bool) (a0_1 : Int) (a0_2 : Int) (r : ByteArray) (w : World) (hT : Tab w) (h : impl_DecText.f k a0_0 a0_1 a0_2 = some r) :
    Calls Tryd.prog 26 #[.agg #[.bool a0_0, .int .i64 a0_1, .int .i64 a0_2]] w fun e w' => e = .returned (.string r) ∧ Below w.heap.size w w' := by
  have hu27 := Tryd.underlying27
  have HB := Aside0.mk (Below.refl w.heap.size w)
  have H : ((impl_isGoodDec.f a0_0 a0_1 a0_2).bind fun t300 => (if t300 = true then ((strconv_Itoa.f a0_1).bind fun t301 => (if a0_0 = true then (impl_DecText.j0 k t301 (⟨#[45]⟩ : ByteArray) a0_0 a0_1 a0_2) else (impl_DecText.j0 k t301 (⟨#[]⟩ : ByteArray) a0_0 a0_1 a0_2))) else (some (⟨#[]⟩ : ByteArray)))) = some r := h
  clear h
  replace H := Option.bind_eq_some_iff.mp H
  obtain ⟨t300, A20, H⟩ := H
  replace H : (if t300 = true then ((strconv_Itoa.f a0_1).bind fun t301 => (if a0_0 = true then (impl_DecText.j0 k t301 (⟨#[45]⟩ : ByteArray) a0_0 a0_1 a0_2) else (impl_DecText.j0 k t301 (⟨#[]⟩ : ByteArray) a0_0 a0_1 a0_2))) else (some (⟨#[]⟩ : ByteArray))) = some r := H
  have A2 := Aside0.mk A20
  clear A20
  by_cases c3 : t300 = true
  · subst c3
    have H1 : ((strconv_Itoa.f a0_1).bind fun t301 => (if a0_0 = true then (impl_DecText.j0 k t301 (⟨#[45]⟩ : ByteArray) a0_0 a0_1 a0_2) else (impl_DecText.j0 k t301 (⟨#[]⟩ : ByteArray) a0_0 a0_1 a0_2))) = some r := by rw [if_pos rfl] at H; exact H
    clear H
    have H := H1
    clear H1
    replace H := Option.bind_eq_some_iff.mp H
    obtain ⟨t301, A40, H⟩ := H
    replace H : (if a0_0 = true then (impl_DecText.j0 k t301 (⟨#[45]⟩ : ByteArray) a0_0 a0_1 a0_2) else (impl_DecText.j0 k t301 (⟨#[]⟩ : ByteArray) a0_0 a0_1 a0_2)) = some r := H
    have A4 := Aside0.mk A40
    clear A40
    have HC5 := Aside0.mk H
    clear H
    go_enter Tryd.func26, Tryd.ntmps26
    go_upto_if 15 with (first | ((with_reducible refine gate_dst (N := 1) rfl ?_); refine box_event ?hg (N := 1) ?hd (cs := #[.bool a0_0, .int .i64 a0_1, .int .i64 a0_2]) (t := 27) ?hr ?_; (case hd => rfl); (case hg => rfl); (case hr => first | (go_simp; done) | (go_simp; rfl)); intro gb299 hg w6 hbox hb; have n0_ := Aside0.mk (below_step (by repeat (first | (with_reducible first | exact HB.out | apply below_alloc | apply pw_below_drewN | apply below_drew1) | exact HB.out)) hb); have n1_ := Aside0.mk (hbox); have n2_ := Aside0.mk ((by rw [hg]; exact (below_size (by repeat (first | (with_reducible first | exact HB.out | apply below_alloc | apply pw_below_drewN | apply below_drew1) | exact HB.out))) : w.heap.size ≤ gb299)); have n3_ := Aside0.mk ((by rw [hg]; exact (below_size (by repeat (first | (with_reducible first | exact HB.out | apply below_alloc | apply pw_below_drewN | apply below_drew1) | exact HB.out))) : w.heap.size ≤ gb299)); clear HB; have HB := n0_; have BK299 := n1_; have GW299 := n2_; have GE299 := n3_; clear n0_ n1_ n2_ n3_; clear hb hbox hg; have hcz7_0 : w6.cell? ⟨gb299, 0, none⟩ = some (.bool a0_0) := (blk_cell BK299.out 0).trans rfl; have hcz7_1 : w6.cell? ⟨gb299, 1, none⟩ = some (.int .i64 a0_1) := (blk_cell BK299.out 1).trans rfl; have hcz7_2 : w6.cell? ⟨gb299, 2, none⟩ = some (.int .i64 a0_2) := (blk_cell BK299.out 2).trans rfl; have hfz7_0 := blk_frozen BK299.out 0; have hfz7_1 := blk_frozen BK299.out 1; have hfz7_2 := blk_frozen BK299.out 2) | (go_at_call 51; (with_reducible refine (impl_isGoodDec.calls a0_0 a0_1 a0_2 true _ A2.out).mono ?_); rintro e w8 ⟨rfl, hb⟩; have n0_ := Aside0.mk (blk_below (g := gb299) (o := .cells #[.bool a0_0, .int .i64 a0_1, .int .i64 a0_2] 27 (0, 0)) (by (with_reducible repeat (first | refine blk_drewN ?_ _ | refine blk_drew ?_ | refine blk_alloc ?_ _)); exact BK299.out) hb); have n1_ := Aside0.mk (below_step (by repeat (first | (with_reducible first | exact HB.out | apply below_alloc | apply pw_below_drewN | apply below_drew1 | refine below_set ?_ GE299.out) | exact HB.out)) hb); clear BK299; clear HB; have BK299 := n0_; have HB := n1_; clear n0_ n1_; (try clear hb); (try clear hb2); (try clear hk); (try clear hi); have hcz9_0 : w8.cell? ⟨gb299, 0, none⟩ = some (.bool a0_0) := (blk_cell BK299.out 0).trans rfl; have hcz9_1 : w8.cell? ⟨gb299, 1, none⟩ = some (.int .i64 a0_1) := (blk_cell BK299.out 1).trans rfl; have hcz9_2 : w8.cell? ⟨gb299, 2, none⟩ = some (.int .i64 a0_2) := (blk_cell BK299.out 2).trans rfl; have hfz9_0 := blk_frozen BK299.out 0; have hfz9_1 := blk_frozen BK299.out 1; have hfz9_2 := blk_frozen BK299.out 2) | (go_at_call 54; (with_reducible refine (strconv_Itoa.calls a0_1 t301 _ (hT.below (by repeat (first | exact HB.out | exact Below.refl _ _ | apply below_alloc | apply pw_below_drewN | apply below_drew1 | refine below_set ?_ GE299.out))) A4.out).mono ?_); rintro e w10 ⟨rfl, hb⟩; have n0_ := Aside0.mk (blk_below (g := gb299) (o := .cells #[.bool a0_0, .int .i64 a0_1, .int .i64 a0_2] 27 (0, 0)) (by (with_reducible repeat (first | refine blk_drewN ?_ _ | refine blk_drew ?_ | refine blk_alloc ?_ _)); exact BK299.out) hb); have n1_ := Aside0.mk (below_step (by repeat (first | (with_reducible first | exact HB.out | apply below_alloc | apply pw_below_drewN | apply below_drew1 | refine below_set ?_ GE299.out) | exact HB.out)) hb); clear BK299; clear HB; have BK299 := n0_; have HB := n1_; clear n0_ n1_; (try clear hb); (try clear hb2); (try clear hk); (try clear hi); have hcz11_0 : w10.cell? ⟨gb299, 0, none⟩ = some (.bool a0_0) := (blk_cell BK299.out 0).trans rfl; have hcz11_1 : w10.cell? ⟨gb299, 1, none⟩ = some (.int .i64 a0_1) := (blk_cell BK299.out 1).trans rfl; have hcz11_2 : w10.cell? ⟨gb299, 2, none⟩ = some (.int .i64 a0_2) := (blk_cell BK299.out 2).trans rfl; have hfz11_0 := blk_frozen BK299.out 0; have hfz11_1 := blk_frozen BK299.out 1; have hfz11_2 := blk_frozen BK299.out 2))
    repeat (go_quiet (first | ((with_reducible refine gate_dst (N := 1) rfl ?_); refine box_event ?hg (N := 1) ?hd (cs := #[.bool a0_0, .int .i64 a0_1, .int .i64 a0_2]) (t := 27) ?hr ?_; (case hd => rfl); (case hg => rfl); (case hr => first | (go_simp; done) | (go_simp; rfl)); intro gb299 hg w6 hbox hb; have n0_ := Aside0.mk (below_step (by repeat (first | (with_reducible first | exact HB.out | apply below_alloc | apply pw_below_drewN | apply below_drew1) | exact HB.out)) hb); have n1_ := Aside0.mk (hbox); have n2_ := Aside0.mk ((by rw [hg]; exact (below_size (by repeat (first | (with_reducible first | exact HB.out | apply below_alloc | apply pw_below_drewN | apply below_drew1) | exact HB.out))) : w.heap.size ≤ gb299)); have n3_ := Aside0.mk ((by rw [hg]; exact (below_size (by repeat (first | (with_reducible first | exact HB.out | apply below_alloc | apply pw_below_drewN | apply below_drew1) | exact HB.out))) : w.heap.size ≤ gb299)); clear HB; have HB := n0_; have BK299 := n1_; have GW299 := n2_; have GE299 := n3_; clear n0_ n1_ n2_ n3_; clear hb hbox hg; have hcz7_0 : w6.cell? ⟨gb299, 0, none⟩ = some (.bool a0_0) := (blk_cell BK299.out 0).trans rfl; have hcz7_1 : w6.cell? ⟨gb299, 1, none⟩ = some (.int .i64 a0_1) := (blk_cell BK299.out 1).trans rfl; have hcz7_2 : w6.cell? ⟨gb299, 2, none⟩ = some (.int .i64 a0_2) := (blk_cell BK299.out 2).trans rfl; have hfz7_0 := blk_frozen BK299.out 0; have hfz7_1 := blk_frozen BK299.out 1; have hfz7_2 := blk_frozen BK299.out 2) | (go_at_call 51; (with_reducible refine (impl_isGoodDec.calls a0_0 a0_1 a0_2 true _ A2.out).mono ?_); rintro e w8 ⟨rfl, hb⟩; have n0_ := Aside0.mk (blk_below (g := gb299) (o := .cells #[.bool a0_0, .int .i64 a0_1, .int .i64 a0_2] 27 (0, 0)) (by (with_reducible repeat (first | refine blk_drewN ?_ _ | refine blk_drew ?_ | refine blk_alloc ?_ _)); exact BK299.out) hb); have n1_ := Aside0.mk (below_step (by repeat (first | (with_reducible first | exact HB.out | apply below_alloc | apply pw_below_drewN | apply below_drew1 | refine below_set ?_ GE299.out) | exact HB.out)) hb); clear BK299; clear HB; have BK299 := n0_; have HB := n1_; clear n0_ n1_; (try clear hb); (try clear hb2); (try clear hk); (try clear hi); have hcz9_0 : w8.cell? ⟨gb299, 0, none⟩ = some (.bool a0_0) := (blk_cell BK299.out 0).trans rfl; have hcz9_1 : w8.cell? ⟨gb299, 1, none⟩ = some (.int .i64 a0_1) := (blk_cell BK299.out 1).trans rfl; have hcz9_2 : w8.cell? ⟨gb299, 2, none⟩ = some (.int .i64 a0_2) := (blk_cell BK299.out 2).trans rfl; have hfz9_0 := blk_frozen BK299.out 0; have hfz9_1 := blk_frozen BK299.out 1; have hfz9_2 := blk_frozen BK299.out 2) | (go_at_call 54; (with_reducible refine (strconv_Itoa.calls a0_1 t301 _ (hT.below (by repeat (first | exact HB.out | exact Below.refl _ _ | apply below_alloc | apply pw_below_drewN | apply below_drew1 | refine below_set ?_ GE299.out))) A4.out).mono ?_); rintro e w10 ⟨rfl, hb⟩; have n0_ := Aside0.mk (blk_below (g := gb299) (o := .cells #[.bool a0_0, .int .i64 a0_1, .int .i64 a0_2] 27 (0, 0)) (by (with_reducible repeat (first | refine blk_drewN ?_ _ | refine blk_drew ?_ | refine blk_alloc ?_ _)); exact BK299.out) hb); have n1_ := Aside0.mk (below_step (by repeat (first | (with_reducible first | exact HB.out | apply below_alloc | apply pw_below_drewN | apply below_drew1 | refine below_set ?_ GE299.out) | exact HB.out)) hb); clear BK299; clear HB; have BK299 := n0_; have HB := n1_; clear n0_ n1_; (try clear hb); (try clear hb2); (try clear hk); (try clear hi); have hcz11_0 : w10.cell? ⟨gb299, 0, none⟩ = some (.bool a0_0) := (blk_cell BK299.out 0).trans rfl; have hcz11_1 : w10.cell? ⟨gb299, 1, none⟩ = some (.int .i64 a0_1) := (blk_cell BK299.out 1).trans rfl; have hcz11_2 : w10.cell? ⟨gb299, 2, none⟩ = some (.int .i64 a0_2) := (blk_cell BK299.out 2).trans rfl; have hfz11_0 := blk_frozen BK299.out 0; have hfz11_1 := blk_frozen BK299.out 1; have hfz11_2 := blk_frozen BK299.out 2)); go_upto_if 15 with (first | ((with_reducible refine gate_dst (N := 1) rfl ?_); refine box_event ?hg (N := 1) ?hd (cs := #[.bool a0_0, .int .i64 a0_1, .int .i64 a0_2]) (t := 27) ?hr ?_; (case hd => rfl); (case hg => rfl); (case hr => first | (go_simp; done) | (go_simp; rfl)); intro gb299 hg w6 hbox hb; have n0_ := Aside0.mk (below_step (by repeat (first | (with_reducible first | exact HB.out | apply below_alloc | apply pw_below_drewN | apply below_drew1) | exact HB.out)) hb); have n1_ := Aside0.mk (hbox); have n2_ := Aside0.mk ((by rw [hg]; exact (below_size (by repeat (first | (with_reducible first | exact HB.out | apply below_alloc | apply pw_below_drewN | apply below_drew1) | exact HB.out))) : w.heap.size ≤ gb299)); have n3_ := Aside0.mk ((by rw [hg]; exact (below_size (by repeat (first | (with_reducible first | exact HB.out | apply below_alloc | apply pw_below_drewN | apply below_drew1) | exact HB.out))) : w.heap.size ≤ gb299)); clear HB; have HB := n0_; have BK299 := n1_; have GW299 := n2_; have GE299 := n3_; clear n0_ n1_ n2_ n3_; clear hb hbox hg; have hcz7_0 : w6.cell? ⟨gb299, 0, none⟩ = some (.bool a0_0) := (blk_cell BK299.out 0).trans rfl; have hcz7_1 : w6.cell? ⟨gb299, 1, none⟩ = some (.int .i64 a0_1) := (blk_cell BK299.out 1).trans rfl; have hcz7_2 : w6.cell? ⟨gb299, 2, none⟩ = some (.int .i64 a0_2) := (blk_cell BK299.out 2).trans rfl; have hfz7_0 := blk_frozen BK299.out 0; have hfz7_1 := blk_frozen BK299.out 1; have hfz7_2 := blk_frozen BK299.out 2) | (go_at_call 51; (with_reducible refine (impl_isGoodDec.calls a0_0 a0_1 a0_2 true _ A2.out).mono ?_); rintro e w8 ⟨rfl, hb⟩; have n0_ := Aside0.mk (blk_below (g := gb299) (o := .cells #[.bool a0_0, .int .i64 a0_1, .int .i64 a0_2] 27 (0, 0)) (by (with_reducible repeat (first | refine blk_drewN ?_ _ | refine blk_drew ?_ | refine blk_alloc ?_ _)); exact BK299.out) hb); have n1_ := Aside0.mk (below_step (by repeat (first | (with_reducible first | exact HB.out | apply below_alloc | apply pw_below_drewN | apply below_drew1 | refine below_set ?_ GE299.out) | exact HB.out)) hb); clear BK299; clear HB; have BK299 := n0_; have HB := n1_; clear n0_ n1_; (try clear hb); (try clear hb2); (try clear hk); (try clear hi); have hcz9_0 : w8.cell? ⟨gb299, 0, none⟩ = some (.bool a0_0) := (blk_cell BK299.out 0).trans rfl; have hcz9_1 : w8.cell? ⟨gb299, 1, none⟩ = some (.int .i64 a0_1) := (blk_cell BK299.out 1).trans rfl; have hcz9_2 : w8.cell? ⟨gb299, 2, none⟩ = some (.int .i64 a0_2) := (blk_cell BK299.out 2).trans rfl; have hfz9_0 := blk_frozen BK299.out 0; have hfz9_1 := blk_frozen BK299.out 1; have hfz9_2 := blk_frozen BK299.out 2) | (go_at_call 54; (with_reducible refine (strconv_Itoa.calls a0_1 t301 _ (hT.below (by repeat (first | exact HB.out | exact Below.refl _ _ | apply below_alloc | apply pw_below_drewN | apply below_drew1 | refine below_set ?_ GE299.out))) A4.out).mono ?_); rintro e w10 ⟨rfl, hb⟩; have n0_ := Aside0.mk (blk_below (g := gb299) (o := .cells #[.bool a0_0, .int .i64 a0_1, .int .i64 a0_2] 27 (0, 0)) (by (with_reducible repeat (first | refine blk_drewN ?_ _ | refine blk_drew ?_ | refine blk_alloc ?_ _)); exact BK299.out) hb); have n1_ := Aside0.mk (below_step (by repeat (first | (with_reducible first | exact HB.out | apply below_alloc | apply pw_below_drewN | apply below_drew1 | refine below_set ?_ GE299.out) | exact HB.out)) hb); clear BK299; clear HB; have BK299 := n0_; have HB := n1_; clear n0_ n1_; (try clear hb); (try clear hb2); (try clear hk); (try clear hi); have hcz11_0 : w10.cell? ⟨gb299, 0, none⟩ = some (.bool a0_0) := (blk_cell BK299.out 0).trans rfl; have hcz11_1 : w10.cell? ⟨gb299, 1, none⟩ = some (.int .i64 a0_1) := (blk_cell BK299.out 1).trans rfl; have hcz11_2 : w10.cell? ⟨gb299, 2, none⟩ = some (.int .i64 a0_2) := (blk_cell BK299.out 2).trans rfl; have hfz11_0 := blk_frozen BK299.out 0; have hfz11_1 := blk_frozen BK299.out 1; have hfz11_2 := blk_frozen BK299.out 2)))
    (try simp only [Act.put, List.setIfInBounds_toArray, List.set_cons_zero, List.set_cons_succ])
    go_cut [4] (fun v4 wc => ∃ (kq : Nat) (x4_4 : ByteArray), v4 = .string x4_4 ∧ Aside0 (impl_DecText.j0 kq t301 x4_4 a0_0 a0_1 a0_2 = some r) ∧ Aside0 (kq ≤ k) ∧ Aside0 (wc.heap[gb299]? = some (.cells #[.bool a0_0, .int .i64 a0_1, .int .i64 a0_2] 27 (0, 0))) ∧ Aside0 (Below w.heap.size w wc))
    case first =>
      have H := HC5.out
      clear HC5
      by_cases c12 : a0_0 = true
      · subst c12
        have H1 : (impl_DecText.j0 k t301 (⟨#[45]⟩ : ByteArray) true a0_1 a0_2) = some r := by rw [if_pos rfl] at H; exact H
        clear H
        have H := H1
        clear H1
        have H' := Aside0.mk H
        clear H
        go_wp2
        repeat (go_quiet (fail); try go_wp2)
        go_meet
        case rel => exact ⟨_, ((⟨#[45]⟩ : ByteArray)), (by first | rfl | (simp; done) | (simp [*]; done) | (simp; unfold wrap64; omega)), H', ⟨by first | omega | exact Nat.le_refl _⟩, ⟨by (with_reducible repeat (first | refine blk_drewN ?_ _ | refine blk_drew ?_ | refine blk_alloc ?_ _)); exact BK299.out⟩, ⟨by repeat (first | (with_reducible first | exact HB.out | apply below_alloc | apply pw_below_drewN | apply below_drew1 | refine below_set ?_ GE299.out) | exact HB.out)⟩⟩
      · replace c12 := Bool.eq_false_iff.mpr c12
        subst c12
        have H1 : (impl_DecText.j0 k t301 (⟨#[]⟩ : ByteArray) false a0_1 a0_2) = some r := by rw [if_neg (show ¬ (false = true) by decide)] at H; exact H
        clear H
        have H := H1
        clear H1
        have H' := Aside0.mk H
        clear H
        go_wp2
        repeat (go_quiet (fail); try go_wp2)
        go_meet
        case rel => exact ⟨_, ((⟨#[]⟩ : ByteArray)), (by first | rfl | (simp; done) | (simp [*]; done) | (simp; unfold wrap64; omega)), H', ⟨by first | omega | exact Nat.le_refl _⟩, ⟨by (with_reducible repeat (first | refine blk_drewN ?_ _ | refine blk_drew ?_ | refine blk_alloc ?_ _)); exact BK299.out⟩, ⟨by repeat (first | (with_reducible first | exact HB.out | apply below_alloc | apply pw_below_drewN | apply below_drew1 | refine below_set ?_ GE299.out) | exact HB.out)⟩⟩
    case rest =>
      clear HC5
      try clear c1
      try clear c2
      try clear p2
      try clear c3
      try clear c12
      try clear hcz11_0
      try clear hcz11_1
      try clear hcz11_2
      try clear hcz7_0
      try clear hcz7_1
      try clear hcz7_2
      try clear hcz9_0
      try clear hcz9_1
      try clear hcz9_2
      try clear hfz11_0
      try clear hfz11_1
      try clear hfz11_2
      try clear hfz7_0
      try clear hfz7_1
      try clear hfz7_2
      try clear hfz9_0
      try clear hfz9_1
      try clear hfz9_2
      obtain ⟨kq, x4_4, rfl, HA, HJ4, BK299, HB⟩ := hcut
      cases kq with
      | zero => exact absurd HA.out (by simp [impl_DecText.j0])
      | succ kj4 =>
        have H := HA.out
        clear HA
        simp only [impl_DecText.j0] at H
        have HC13 := Aside0.mk H
        clear H
        go_upto_region 8 with (fail)
        repeat (go_quiet (fail); go_upto_region 8 with (fail))
        go_cut [18] (fun v18 wc => ∃ (kq : Nat) (x18_12 : Bool), v18 = .bool x18_12 ∧ Aside0 (impl_DecText.j1 kq t301 x4_4 (t301.size : Int) x18_12 a0_0 a0_1 a0_2 = some r) ∧ Aside0 (kq ≤ kj4) ∧ Aside0 (wc.heap[gb299]? = some (.cells #[.bool a0_0, .int .i64 a0_1, .int .i64 a0_2] 27 (0, 0))) ∧ Aside0 (Below w.heap.size w wc))
        case first =>
          have H := HC13.out
          clear HC13
          by_cases c14 : a0_2 ≥ 0
          · rw [if_pos c14] at H
            have c14b0 : decide (0 ≤ a0_2) = true := decide_eq_true c14
            clear c14
            (first | rw [c14b0] | (simp only [i64_w, i32_w]; rw [c14b0]) | skip)
            have H' := Aside0.mk H
            clear H
            have hcz15_0 : wc.cell? ⟨gb299, 0, none⟩ = some (.bool a0_0) := (blk_cell BK299.out 0).trans rfl
            have hcz15_1 : wc.cell? ⟨gb299, 1, none⟩ = some (.int .i64 a0_1) := (blk_cell BK299.out 1).trans rfl
            have hcz15_2 : wc.cell? ⟨gb299, 2, none⟩ = some (.int .i64 a0_2) := (blk_cell BK299.out 2).trans rfl
            have hfz15_0 := blk_frozen BK299.out 0
            have hfz15_1 := blk_frozen BK299.out 1
            have hfz15_2 := blk_frozen BK299.out 2
            go_wp2
            repeat (go_quiet (fail); try go_wp2)
            go_meet
            case rel => exact ⟨_, (decide ((wrap64 ((t301.size : Int) + a0_2)) ≤ 15)), (by first | rfl | (simp; done) | (simp [*]; done) | (simp; unfold wrap64; omega)), H', ⟨by have := HJ4.out; first | omega | exact Nat.le_refl _⟩, ⟨by (with_reducible repeat (first | refine blk_drewN ?_ _ | refine blk_drew ?_ | refine blk_alloc ?_ _)); exact BK299.out⟩, ⟨by repeat (first | (with_reducible first | exact HB.out | apply below_alloc | apply pw_below_drewN | apply below_drew1 | refine below_set ?_ GE299.out) | exact HB.out)⟩⟩
          · rw [if_neg c14] at H
            have c14b0 : decide (0 ≤ a0_2) = false := decide_eq_false c14
            clear c14
            (first | rw [c14b0] | (simp only [i64_w, i32_w]; rw [c14b0]) | skip)
            have H' := Aside0.mk H
            clear H
            have hcz16_0 : wc.cell? ⟨gb299, 0, none⟩ = some (.bool a0_0) := (blk_cell BK299.out 0).trans rfl
            have hcz16_1 : wc.cell? ⟨gb299, 1, none⟩ = some (.int .i64 a0_1) := (blk_cell BK299.out 1).trans rfl
            have hcz16_2 : wc.cell? ⟨gb299, 2, none⟩ = some (.int .i64 a0_2) := (blk_cell BK299.out 2).trans rfl
            have hfz16_0 := blk_frozen BK299.out 0
            have hfz16_1 := blk_frozen BK299.out 1
            have hfz16_2 := blk_frozen BK299.out 2
            go_wp2
            repeat (go_quiet (fail); try go_wp2)
            go_meet
            case rel => exact ⟨_, (false), (by first | rfl | (simp; done) | (simp [*]; done) | (simp; unfold wrap64; omega)), H', ⟨by have := HJ4.out; first | omega | exact Nat.le_refl _⟩, ⟨by (with_reducible repeat (first | refine blk_drewN ?_ _ | refine blk_drew ?_ | refine blk_alloc ?_ _)); exact BK299.out⟩, ⟨by repeat (first | (with_reducible first | exact HB.out | apply below_alloc | apply pw_below_drewN | apply below_drew1 | refine below_set ?_ GE299.out) | exact HB.out)⟩⟩
        case rest =>
          clear HC13
          try clear c1
          try clear c2
          try clear p2
          try clear c3
          try clear p6
          try clear c12
          try clear c14
          try clear c14b0
          try clear hcz11_0
          try clear hcz11_1
          try clear hcz11_2
          try clear hcz15_0
          try clear hcz15_1
          try clear hcz15_2
          try clear hcz16_0
          try clear hcz16_1
          try clear hcz16_2
          try clear hcz7_0
          try clear hcz7_1
          try clear hcz7_2
          try clear hcz9_0
          try clear hcz9_1
          try clear hcz9_2
          try clear hfz11_0
          try clear hfz11_1
          try clear hfz11_2
          try clear hfz15_0
          try clear hfz15_1
          try clear hfz15_2
          try clear hfz16_0
          try clear hfz16_1
          try clear hfz16_2
          try clear hfz7_0
          try clear hfz7_1
          try clear hfz7_2
          try clear hfz9_0
          try clear hfz9_1
          try clear hfz9_2
          try clear p2
          obtain ⟨kq, x18_12, rfl, HA, HJ12, BK299, HB⟩ := hcut
          cases kq with
          | zero => exact absurd HA.out (by simp [impl_DecText.j1])
          | succ kj12 =>
            have H := HA.out
            clear HA
            simp only [impl_DecText.j1] at H
            by_cases c17 : x18_12 = true
            · subst c17
              have H1 : (if x4_4.size + t301.size ≤ 9223372036854775807 then ((strings_Repeat.f (⟨#[48]⟩ : ByteArray) a0_2).bind fun t302 => (if (x4_4 ++ t301).size + t302.size ≤ 9223372036854775807 then (some ((x4_4 ++ t301) ++ t302)) else (none))) else (none)) = some r := by rw [if_pos rfl] at H; exact H
              clear H
              have H := H1
              clear H1
              by_cases c18 : x4_4.size + t301.size ≤ 9223372036854775807
              · rw [if_pos c18] at H
                have c18b0 := eq_true c18
                have c18b1 : decide (x4_4.size + t301.size ≤ 9223372036854775807) = true := decide_eq_true c18
                try have c18b2 : (9223372036854775807 < x4_4.size + t301.size) = False := eq_false (Nat.not_lt.2 c18)
                replace H := Option.bind_eq_some_iff.mp H
                obtain ⟨t302, A190, H⟩ := H
                replace H : (if (x4_4 ++ t301).size + t302.size ≤ 9223372036854775807 then (some ((x4_4 ++ t301) ++ t302)) else (none)) = some r := H
                have A19 := Aside0.mk A190
                clear A190
                by_cases c20 : (x4_4 ++ t301).size + t302.size ≤ 9223372036854775807
                · rw [if_pos c20] at H
                  have c20b0 := eq_true c20
                  have c20b1 : decide ((x4_4 ++ t301).size + t302.size ≤ 9223372036854775807) = true := decide_eq_true c20
                  try have c20b2 : (9223372036854775807 < (x4_4 ++ t301).size + t302.size) = False := eq_false (Nat.not_lt.2 c20)
                  try have c20b28 : (9223372036854775807 < (x4_4.size + t301.size) + t302.size) = False := eq_false (Nat.not_lt.2 (by have h8_ := c20; simp only [ByteArray.size_append, ByteArray.size_extract, Nat.min_self, Nat.sub_zero] at h8_; exact h8_))
                  obtain rfl := Option.some.inj H
                  have hcz21_0 : wc.cell? ⟨gb299, 0, none⟩ = some (.bool a0_0) := (blk_cell BK299.out 0).trans rfl
                  have hcz21_1 : wc.cell? ⟨gb299, 1, none⟩ = some (.int .i64 a0_1) := (blk_cell BK299.out 1).trans rfl
                  have hcz21_2 : wc.cell? ⟨gb299, 2, none⟩ = some (.int .i64 a0_2) := (blk_cell BK299.out 2).trans rfl
                  have hfz21_0 := blk_frozen BK299.out 0
                  have hfz21_1 := blk_frozen BK299.out 1
                  have hfz21_2 := blk_frozen BK299.out 2
                  go_wp2_with (first | (go_at_call 30; (with_reducible refine (strings_Repeat.calls (⟨#[48]⟩ : ByteArray) a0_2 t302 _ A19.out).mono ?_); rintro e w22 ⟨rfl, hb⟩; have n0_ := Aside0.mk (blk_below (g := gb299) (o := .cells #[.bool a0_0, .int .i64 a0_1, .int .i64 a0_2] 27 (0, 0)) (by (with_reducible repeat (first | refine blk_drewN ?_ _ | refine blk_drew ?_ | refine blk_alloc ?_ _)); exact BK299.out) hb); have n1_ := Aside0.mk (below_step (by repeat (first | (with_reducible first | exact HB.out | apply below_alloc | apply pw_below_drewN | apply below_drew1 | refine below_set ?_ GE299.out) | exact HB.out)) hb); clear BK299; clear HB; have BK299 := n0_; have HB := n1_; clear n0_ n1_; (try clear hb); (try clear hb2); (try clear hk); (try clear hi)))
                  repeat (go_quiet (first | (go_at_call 30; (with_reducible refine (strings_Repeat.calls (⟨#[48]⟩ : ByteArray) a0_2 t302 _ A19.out).mono ?_); rintro e w22 ⟨rfl, hb⟩; have n0_ := Aside0.mk (blk_below (g := gb299) (o := .cells #[.bool a0_0, .int .i64 a0_1, .int .i64 a0_2] 27 (0, 0)) (by (with_reducible repeat (first | refine blk_drewN ?_ _ | refine blk_drew ?_ | refine blk_alloc ?_ _)); exact BK299.out) hb); have n1_ := Aside0.mk (below_step (by repeat (first | (with_reducible first | exact HB.out | apply below_alloc | apply pw_below_drewN | apply below_drew1 | refine below_set ?_ GE299.out) | exact HB.out)) hb); clear BK299; clear HB; have BK299 := n0_; have HB := n1_; clear n0_ n1_; (try clear hb); (try clear hb2); (try clear hk); (try clear hi))); try go_wp2_with (first | (go_at_call 30; (with_reducible refine (strings_Repeat.calls (⟨#[48]⟩ : ByteArray) a0_2 t302 _ A19.out).mono ?_); rintro e w22 ⟨rfl, hb⟩; have n0_ := Aside0.mk (blk_below (g := gb299) (o := .cells #[.bool a0_0, .int .i64 a0_1, .int .i64 a0_2] 27 (0, 0)) (by (with_reducible repeat (first | refine blk_drewN ?_ _ | refine blk_drew ?_ | refine blk_alloc ?_ _)); exact BK299.out) hb); have n1_ := Aside0.mk (below_step (by repeat (first | (with_reducible first | exact HB.out | apply below_alloc | apply pw_below_drewN | apply below_drew1 | refine below_set ?_ GE299.out) | exact HB.out)) hb); clear BK299; clear HB; have BK299 := n0_; have HB := n1_; clear n0_ n1_; (try clear hb); (try clear hb2); (try clear hk); (try clear hi))))
                  go_ret
                  exact ⟨by first | rfl | (simp [errW_none, errW_some] <;> rfl) | (simp [*, errW_none, errW_some] <;> rfl), by repeat (first | (with_reducible first | exact HB.out | apply below_alloc | apply pw_below_drewN | apply below_drew1 | refine below_set ?_ GE299.out) | exact HB.out)⟩
                · rw [if_neg c20] at H
                  exact absurd H (by simp)
              · rw [if_neg c18] at H
                exact absurd H (by simp)
            · replace c17 := Bool.eq_false_iff.mpr c17
              subst c17
              have H1 : (if a0_2 < 0 then (impl_DecText.j2 kj12 t301 x4_4 (t301.size : Int) (decide ((wrap64 ((wrap64 ((t301.size : Int) + a0_2)) - 1)) ≥ (-5))) a0_0 a0_1 a0_2) else (impl_DecText.j2 kj12 t301 x4_4 (t301.size : Int) false a0_0 a0_1 a0_2)) = some r := by rw [if_neg (show ¬ (false = true) by decide)] at H; exact H
              clear H
              have H := H1
              clear H1
              have HC23 := Aside0.mk H
              clear H
              go_upto_region 10 with (fail)
              repeat (go_quiet (fail); go_upto_region 10 with (fail))
              go_cut [36] (fun v36 wc => ∃ (kq : Nat) (x36_22 : Bool), v36 = .bool x36_22 ∧ Aside0 (impl_DecText.j2 kq t301 x4_4 (t301.size : Int) x36_22 a0_0 a0_1 a0_2 = some r) ∧ Aside0 (kq ≤ kj12) ∧ Aside0 (wc.heap[gb299]? = some (.cells #[.bool a0_0, .int .i64 a0_1, .int .i64 a0_2] 27 (0, 0))) ∧ Aside0 (Below w.heap.size w wc))
              case first =>
                have H := HC23.out
                clear HC23
                by_cases c24 : a0_2 < 0
                · rw [if_pos c24] at H
                  have c24b0 : decide (a0_2 < 0) = true := decide_eq_true c24
                  clear c24
                  (first | rw [c24b0] | (simp only [i64_w, i32_w]; rw [c24b0]) | skip)
                  have H' := Aside0.mk H
                  clear H
                  have hcz25_0 : wc.cell? ⟨gb299, 0, none⟩ = some (.bool a0_0) := (blk_cell BK299.out 0).trans rfl
                  have hcz25_1 : wc.cell? ⟨gb299, 1, none⟩ = some (.int .i64 a0_1) := (blk_cell BK299.out 1).trans rfl
                  have hcz25_2 : wc.cell? ⟨gb299, 2, none⟩ = some (.int .i64 a0_2) := (blk_cell BK299.out 2).trans rfl
                  have hfz25_0 := blk_frozen BK299.out 0
                  have hfz25_1 := blk_frozen BK299.out 1
                  have hfz25_2 := blk_frozen BK299.out 2
                  go_wp2
                  repeat (go_quiet (fail); try go_wp2)
                  go_meet
                  case rel => exact ⟨_, (decide ((wrap64 ((wrap64 ((t301.size : Int) + a0_2)) - 1)) ≥ (-5))), (by first | rfl | (simp; done) | (simp [*]; done) | (simp; unfold wrap64; omega)), H', ⟨by have := HJ4.out; have := HJ12.out; first | omega | exact Nat.le_refl _⟩, ⟨by (with_reducible repeat (first | refine blk_drewN ?_ _ | refine blk_drew ?_ | refine blk_alloc ?_ _)); exact BK299.out⟩, ⟨by repeat (first | (with_reducible first | exact HB.out | apply below_alloc | apply pw_below_drewN | apply below_drew1 | refine below_set ?_ GE299.out) | exact HB.out)⟩⟩
                · rw [if_neg c24] at H
                  have c24b0 : decide (a0_2 < 0) = false := decide_eq_false c24
                  clear c24
                  (first | rw [c24b0] | (simp only [i64_w, i32_w]; rw [c24b0]) | skip)
                  have H' := Aside0.mk H
                  clear H
                  have hcz26_0 : wc.cell? ⟨gb299, 0, none⟩ = some (.bool a0_0) := (blk_cell BK299.out 0).trans rfl
                  have hcz26_1 : wc.cell? ⟨gb299, 1, none⟩ = some (.int .i64 a0_1) := (blk_cell BK299.out 1).trans rfl
                  have hcz26_2 : wc.cell? ⟨gb299, 2, none⟩ = some (.int .i64 a0_2) := (blk_cell BK299.out 2).trans rfl
                  have hfz26_0 := blk_frozen BK299.out 0
                  have hfz26_1 := blk_frozen BK299.out 1
                  have hfz26_2 := blk_frozen BK299.out 2
                  go_wp2
                  repeat (go_quiet (fail); try go_wp2)
                  go_meet
                  case rel => exact ⟨_, (false), (by first | rfl | (simp; done) | (simp [*]; done) | (simp; unfold wrap64; omega)), H', ⟨by have := HJ4.out; have := HJ12.out; first | omega | exact Nat.le_refl _⟩, ⟨by (with_reducible repeat (first | refine blk_drewN ?_ _ | refine blk_drew ?_ | refine blk_alloc ?_ _)); exact BK299.out⟩, ⟨by repeat (first | (with_reducible first | exact HB.out | apply below_alloc | apply pw_below_drewN | apply below_drew1 | refine below_set ?_ GE299.out) | exact HB.out)⟩⟩
              case rest =>
                clear HC23
                try clear c1
                try clear c2
                try clear p2
                try clear c3
                try clear p6
                try clear c12
                try clear c14
                try clear c14b0
                try clear c17
                try clear c18
                try clear c18b0
                try clear c18b1
                try clear c18b2
                try clear c20
                try clear c20b0
                try clear c20b1
                try clear c20b2
                try clear c24
                try clear c24b0
                try clear c26
                try clear hcz11_0
                try clear hcz11_1
                try clear hcz11_2
                try clear hcz15_0
                try clear hcz15_1
                try clear hcz15_2
                try clear hcz16_0
                try clear hcz16_1
                try clear hcz16_2
                try clear hcz21_0
                try clear hcz21_1
                try clear hcz21_2
                try clear hcz25_0
                try clear hcz25_1
                try clear hcz25_2
                try clear hcz26_0
                try clear hcz26_1
                try clear hcz26_2
                try clear hcz7_0
                try clear hcz7_1
                try clear hcz7_2
                try clear hcz9_0
                try clear hcz9_1
                try clear hcz9_2
                try clear hfz11_0
                try clear hfz11_1
                try clear hfz11_2
                try clear hfz15_0
                try clear hfz15_1
                try clear hfz15_2
                try clear hfz16_0
                try clear hfz16_1
                try clear hfz16_2
                try clear hfz21_0
                try clear hfz21_1
                try clear hfz21_2
                try clear hfz25_0
                try clear hfz25_1
                try clear hfz25_2
                try clear hfz26_0
                try clear hfz26_1
                try clear hfz26_2
                try clear hfz7_0
                try clear hfz7_1
                try clear hfz7_2
                try clear hfz9_0
                try clear hfz9_1
                try clear hfz9_2
                try clear p2
                try clear p6
                obtain ⟨kq, x36_22, rfl, HA, HJ22, BK299, HB⟩ := hcut
                cases kq with
                | zero => exact absurd HA.out (by simp [impl_DecText.j2])
                | succ kj22 =>
                  have H := HA.out
                  clear HA
                  simp only [impl_DecText.j2] at H
                  by_cases c27 : x36_22 = true
                  · subst c27
                    have H1 : (if (wrap64 ((t301.size : Int) + a0_2)) > 0 then (if 0 ≤ (wrap64 ((t301.size : Int) + a0_2)) then (if (wrap64 ((t301.size : Int) + a0_2)) ≤ (t301.size : Int) then (if x4_4.size + (t301.extract 0 ((wrap64 ((t301.size : Int) + a0_2)) : Int).toNat).size ≤ 9223372036854775807 then (if (x4_4 ++ (t301.extract 0 ((wrap64 ((t301.size : Int) + a0_2)) : Int).toNat)).size + 1 ≤ 9223372036854775807 then (if ((x4_4 ++ (t301.extract 0 ((wrap64 ((t301.size : Int) + a0_2)) : Int).toNat)) ++ (⟨#[46]⟩ : ByteArray)).size + (t301.extract ((wrap64 ((t301.size : Int) + a0_2)) : Int).toNat t301.size).size ≤ 9223372036854775807 then (some (((x4_4 ++ (t301.extract 0 ((wrap64 ((t301.size : Int) + a0_2)) : Int).toNat)) ++ (⟨#[46]⟩ : ByteArray)) ++ (t301.extract ((wrap64 ((t301.size : Int) + a0_2)) : Int).toNat t301.size))) else (none)) else (none)) else (none)) else (none)) else (none)) else (if x4_4.size + 2 ≤ 9223372036854775807 then ((strings_Repeat.f (⟨#[48]⟩ : ByteArray) (wrap64 (-(wrap64 ((t301.size : Int) + a0_2))))).bind fun t303 => (if (x4_4 ++ (⟨#[48, 46]⟩ : ByteArray)).size + t303.size ≤ 9223372036854775807 then (if ((x4_4 ++ (⟨#[48, 46]⟩ : ByteArray)) ++ t303).size + t301.size ≤ 9223372036854775807 then (some (((x4_4 ++ (⟨#[48, 46]⟩ : ByteArray)) ++ t303) ++ t301)) else (none)) else (none))) else (none))) = some r := by rw [if_pos rfl] at H; exact H
                    clear H
                    have H := H1
                    clear H1
                    by_cases c28 : (wrap64 ((t301.size : Int) + a0_2)) > 0
                    · rw [if_pos c28] at H
                      have c28b0 : decide (0 < (wrap64 ((t301.size : Int) + a0_2))) = true := decide_eq_true c28
                      clear c28
                      obtain ⟨ji29, hji29⟩ : ∃ j_ : Int, (wrap64 ((t301.size : Int) + a0_2)) = j_ := ⟨_, rfl⟩
                      replace H : (if 0 ≤ (ji29) then (if (ji29) ≤ (t301.size : Int) then (if x4_4.size + (t301.extract 0 ((ji29) : Int).toNat).size ≤ 9223372036854775807 then (if (x4_4 ++ (t301.extract 0 ((ji29) : Int).toNat)).size + 1 ≤ 9223372036854775807 then (if ((x4_4 ++ (t301.extract 0 ((ji29) : Int).toNat)) ++ (⟨#[46]⟩ : ByteArray)).size + (t301.extract ((ji29) : Int).toNat t301.size).size ≤ 9223372036854775807 then (some (((x4_4 ++ (t301.extract 0 ((ji29) : Int).toNat)) ++ (⟨#[46]⟩ : ByteArray)) ++ (t301.extract ((ji29) : Int).toNat t301.size))) else (none)) else (none)) else (none)) else (none)) else (none)) = some r := by first | (rw [hji29] at H; exact H) | (simp only [hji29] at H ⊢; exact H)
                      (try rw [hji29] at c28b0)
                      have hji29w : (IntKind.i64.wrap ((t301.size : Int) + a0_2)) = ji29 := (i64_w _).trans hji29
                      by_cases c30 : 0 ≤ (ji29)
                      · rw [if_pos c30] at H
                        have c30b0 := eq_true c30
                        have c30b1 : decide (0 ≤ (ji29)) = true := decide_eq_true c30
                        clear c30
                        by_cases c31 : (ji29) ≤ (t301.size : Int)
                        · rw [if_pos c31] at H
                          have c31b0 := eq_true c31
                          have c31b1 : decide ((ji29) ≤ (t301.size : Int)) = true := decide_eq_true c31
                          clear c31
                          by_cases c32 : x4_4.size + (t301.extract 0 ((ji29) : Int).toNat).size ≤ 9223372036854775807
                          · rw [if_pos c32] at H
                            have c32b0 := eq_true c32
                            have c32b1 : decide (x4_4.size + (t301.extract 0 ((ji29) : Int).toNat).size ≤ 9223372036854775807) = true := decide_eq_true c32
                            (try (have c32b06 := c32b0; simp only [ByteArray.size_extract, Nat.min_self, Nat.sub_zero] at c32b06))
                            (try (have c32b16 := c32b1; simp only [ByteArray.size_extract, Nat.min_self, Nat.sub_zero] at c32b16))
                            try have c32b2 : (9223372036854775807 < x4_4.size + (t301.extract 0 ((ji29) : Int).toNat).size) = False := eq_false (Nat.not_lt.2 c32)
                            try have c32b28 : (9223372036854775807 < x4_4.size + (min ((ji29) : Int).toNat t301.size)) = False := eq_false (Nat.not_lt.2 (by have h8_ := c32; simp only [ByteArray.size_append, ByteArray.size_extract, Nat.min_self, Nat.sub_zero] at h8_; exact h8_))
                            try have c32b27 : (9223372036854775807 < x4_4.size + (((ji29) : Int).toNat)) = False := eq_false (Nat.not_lt.2 (by have h8_ := c32; simp only [ByteArray.size_append, ByteArray.size_extract, Nat.min_self, Nat.sub_zero] at h8_; (try have q_ := of_decide_eq_true c30b1); (try have q_ := of_decide_eq_true c31b1); (try have q_ := of_decide_eq_true c32b1); (try have q_ := of_decide_eq_true c33b1); (try have q_ := of_decide_eq_true c36b1); omega))
                            by_cases c33 : (x4_4 ++ (t301.extract 0 ((ji29) : Int).toNat)).size + 1 ≤ 9223372036854775807
                            · rw [if_pos c33] at H
                              have c33b0 := eq_true c33
                              have c33b1 : decide ((x4_4 ++ (t301.extract 0 ((ji29) : Int).toNat)).size + 1 ≤ 9223372036854775807) = true := decide_eq_true c33
                              (try (have c33b06 := c33b0; simp only [ByteArray.size_extract, Nat.min_self, Nat.sub_zero] at c33b06))
                              (try (have c33b16 := c33b1; simp only [ByteArray.size_extract, Nat.min_self, Nat.sub_zero] at c33b16))
                              try have c33b2 : (9223372036854775807 < (x4_4 ++ (t301.extract 0 ((ji29) : Int).toNat)).size + 1) = False := eq_false (Nat.not_lt.2 c33)
                              try have c33b28 : (9223372036854775807 < (x4_4.size + (min ((ji29) : Int).toNat t301.size)) + 1) = False := eq_false (Nat.not_lt.2 (by have h8_ := c33; simp only [ByteArray.size_append, ByteArray.size_extract, Nat.min_self, Nat.sub_zero] at h8_; exact h8_))
                              try have c33b27 : (9223372036854775807 < (x4_4.size + (((ji29) : Int).toNat)) + 1) = False := eq_false (Nat.not_lt.2 (by have h8_ := c33; simp only [ByteArray.size_append, ByteArray.size_extract, Nat.min_self, Nat.sub_zero] at h8_; (try have q_ := of_decide_eq_true c30b1); (try have q_ := of_decide_eq_true c31b1); (try have q_ := of_decide_eq_true c32b1); (try have q_ := of_decide_eq_true c33b1); (try have q_ := of_decide_eq_true c36b1); omega))
                              have c34b0 := eq_true (of_decide_eq_true (by first | (with_reducible assumption) | assumption) : 0 ≤ (ji29))
                              have c35b0 := eq_true (of_decide_eq_true (by first | (with_reducible assumption) | assumption) : (ji29) ≤ (t301.size : Int))
                              by_cases c36 : ((x4_4 ++ (t301.extract 0 ((ji29) : Int).toNat)) ++ (⟨#[46]⟩ : ByteArray)).size + (t301.extract ((ji29) : Int).toNat t301.size).size ≤ 9223372036854775807
                              · rw [if_pos c36] at H
                                have c36b0 := eq_true c36
                                have c36b1 : decide (((x4_4 ++ (t301.extract 0 ((ji29) : Int).toNat)) ++ (⟨#[46]⟩ : ByteArray)).size + (t301.extract ((ji29) : Int).toNat t301.size).size ≤ 9223372036854775807) = true := decide_eq_true c36
                                (try (have c36b06 := c36b0; simp only [ByteArray.size_extract, Nat.min_self, Nat.sub_zero] at c36b06))
                                (try (have c36b16 := c36b1; simp only [ByteArray.size_extract, Nat.min_self, Nat.sub_zero] at c36b16))
                                try have c36b2 : (9223372036854775807 < ((x4_4 ++ (t301.extract 0 ((ji29) : Int).toNat)) ++ (⟨#[46]⟩ : ByteArray)).size + (t301.extract ((ji29) : Int).toNat t301.size).size) = False := eq_false (Nat.not_lt.2 c36)
                                try have c36b28 : (9223372036854775807 < ((x4_4.size + (min ((ji29) : Int).toNat t301.size)) + 1) + (t301.size - ((ji29) : Int).toNat)) = False := eq_false (Nat.not_lt.2 (by have h8_ := c36; simp only [ByteArray.size_append, ByteArray.size_extract, Nat.min_self, Nat.sub_zero] at h8_; exact h8_))
                                try have c36b27 : (9223372036854775807 < ((x4_4.size + (((ji29) : Int).toNat)) + 1) + (t301.size - ((ji29) : Int).toNat)) = False := eq_false (Nat.not_lt.2 (by have h8_ := c36; simp only [ByteArray.size_append, ByteArray.size_extract, Nat.min_self, Nat.sub_zero] at h8_; (try have q_ := of_decide_eq_true c30b1); (try have q_ := of_decide_eq_true c31b1); (try have q_ := of_decide_eq_true c32b1); (try have q_ := of_decide_eq_true c33b1); (try have q_ := of_decide_eq_true c36b1); have z_ : (⟨#[46]⟩ : ByteArray).size = 1 := rfl; omega))
                                obtain rfl := Option.some.inj H
                                have hcz37_0 : wc.cell? ⟨gb299, 0, none⟩ = some (.bool a0_0) := (blk_cell BK299.out 0).trans rfl
                                have hcz37_1 : wc.cell? ⟨gb299, 1, none⟩ = some (.int .i64 a0_1) := (blk_cell BK299.out 1).trans rfl
                                have hcz37_2 : wc.cell? ⟨gb299, 2, none⟩ = some (.int .i64 a0_2) := (blk_cell BK299.out 2).trans rfl
                                have hfz37_0 := blk_frozen BK299.out 0
                                have hfz37_1 := blk_frozen BK299.out 1
                                have hfz37_2 := blk_frozen BK299.out 2
                                go_wp2
                                repeat (go_quiet (fail); try go_wp2)
                                go_ret
                                exact ⟨by first | rfl | (simp [errW_none, errW_some] <;> rfl) | (simp only [← hji29]; first | rfl | (simp [errW_none, errW_some] <;> rfl)) | (simp [*, errW_none, errW_some] <;> rfl), by repeat (first | (with_reducible first | exact HB.out | apply below_alloc | apply pw_below_drewN | apply below_drew1 | refine below_set ?_ GE299.out) | exact HB.out)⟩
                              · rw [if_neg c36] at H
                                exact absurd H (by simp)
                            · rw [if_neg c33] at H
                              exact absurd H (by simp)
                          · rw [if_neg c32] at H
                            exact absurd H (by simp)
                        · rw [if_neg c31] at H
                          exact absurd H (by simp)
                      · rw [if_neg c30] at H
                        exact absurd H (by simp)
                    · rw [if_neg c28] at H
                      have c28b0 : decide (0 < (wrap64 ((t301.size : Int) + a0_2))) = false := decide_eq_false c28
                      clear c28
                      by_cases c38 : x4_4.size + 2 ≤ 9223372036854775807
                      · rw [if_pos c38] at H
                        have c38b0 := eq_true c38
                        have c38b1 : decide (x4_4.size + 2 ≤ 9223372036854775807) = true := decide_eq_true c38
                        try have c38b2 : (9223372036854775807 < x4_4.size + 2) = False := eq_false (Nat.not_lt.2 c38)
                        replace H := Option.bind_eq_some_iff.mp H
                        obtain ⟨t303, A390, H⟩ := H
                        replace H : (if (x4_4 ++ (⟨#[48, 46]⟩ : ByteArray)).size + t303.size ≤ 9223372036854775807 then (if ((x4_4 ++ (⟨#[48, 46]⟩ : ByteArray)) ++ t303).size + t301.size ≤ 9223372036854775807 then (some (((x4_4 ++ (⟨#[48, 46]⟩ : ByteArray)) ++ t303) ++ t301)) else (none)) else (none)) = some r := H
                        have A39 := Aside0.mk A390
                        clear A390
                        by_cases c40 : (x4_4 ++ (⟨#[48, 46]⟩ : ByteArray)).size + t303.size ≤ 9223372036854775807
                        · rw [if_pos c40] at H
                          have c40b0 := eq_true c40
                          have c40b1 : decide ((x4_4 ++ (⟨#[48, 46]⟩ : ByteArray)).size + t303.size ≤ 9223372036854775807) = true := decide_eq_true c40
                          try have c40b2 : (9223372036854775807 < (x4_4 ++ (⟨#[48, 46]⟩ : ByteArray)).size + t303.size) = False := eq_false (Nat.not_lt.2 c40)
                          try have c40b28 : (9223372036854775807 < (x4_4.size + 2) + t303.size) = False := eq_false (Nat.not_lt.2 (by have h8_ := c40; simp only [ByteArray.size_append, ByteArray.size_extract, Nat.min_self, Nat.sub_zero] at h8_; exact h8_))
                          by_cases c41 : ((x4_4 ++ (⟨#[48, 46]⟩ : ByteArray)) ++ t303).size + t301.size ≤ 9223372036854775807
                          · rw [if_pos c41] at H
                            have c41b0 := eq_true c41
                            have c41b1 : decide (((x4_4 ++ (⟨#[48, 46]⟩ : ByteArray)) ++ t303).size + t301.size ≤ 9223372036854775807) = true := decide_eq_true c41
                            try have c41b2 : (9223372036854775807 < ((x4_4 ++ (⟨#[48, 46]⟩ : ByteArray)) ++ t303).size + t301.size) = False := eq_false (Nat.not_lt.2 c41)
                            try have c41b28 : (9223372036854775807 < ((x4_4.size + 2) + t303.size) + t301.size) = False := eq_false (Nat.not_lt.2 (by have h8_ := c41; simp only [ByteArray.size_append, ByteArray.size_extract, Nat.min_self, Nat.sub_zero] at h8_; exact h8_))
                            obtain rfl := Option.some.inj H
                            have hcz42_0 : wc.cell? ⟨gb299, 0, none⟩ = some (.bool a0_0) := (blk_cell BK299.out 0).trans rfl
                            have hcz42_1 : wc.cell? ⟨gb299, 1, none⟩ = some (.int .i64 a0_1) := (blk_cell BK299.out 1).trans rfl
                            have hcz42_2 : wc.cell? ⟨gb299, 2, none⟩ = some (.int .i64 a0_2) := (blk_cell BK299.out 2).trans rfl
                            have hfz42_0 := blk_frozen BK299.out 0
                            have hfz42_1 := blk_frozen BK299.out 1
                            have hfz42_2 := blk_frozen BK299.out 2
                            go_wp2_with (first | (go_at_call 30; (with_reducible refine (strings_Repeat.calls (⟨#[48]⟩ : ByteArray) (wrap64 (-(wrap64 ((t301.size : Int) + a0_2)))) t303 _ A39.out).mono ?_); rintro e w43 ⟨rfl, hb⟩; have n0_ := Aside0.mk (blk_below (g := gb299) (o := .cells #[.bool a0_0, .int .i64 a0_1, .int .i64 a0_2] 27 (0, 0)) (by (with_reducible repeat (first | refine blk_drewN ?_ _ | refine blk_drew ?_ | refine blk_alloc ?_ _)); exact BK299.out) hb); have n1_ := Aside0.mk (below_step (by repeat (first | (with_reducible first | exact HB.out | apply below_alloc | apply pw_below_drewN | apply below_drew1 | refine below_set ?_ GE299.out) | exact HB.out)) hb); clear BK299; clear HB; have BK299 := n0_; have HB := n1_; clear n0_ n1_; (try clear hb); (try clear hb2); (try clear hk); (try clear hi)))
                            repeat (go_quiet (first | (go_at_call 30; (with_reducible refine (strings_Repeat.calls (⟨#[48]⟩ : ByteArray) (wrap64 (-(wrap64 ((t301.size : Int) + a0_2)))) t303 _ A39.out).mono ?_); rintro e w43 ⟨rfl, hb⟩; have n0_ := Aside0.mk (blk_below (g := gb299) (o := .cells #[.bool a0_0, .int .i64 a0_1, .int .i64 a0_2] 27 (0, 0)) (by (with_reducible repeat (first | refine blk_drewN ?_ _ | refine blk_drew ?_ | refine blk_alloc ?_ _)); exact BK299.out) hb); have n1_ := Aside0.mk (below_step (by repeat (first | (with_reducible first | exact HB.out | apply below_alloc | apply pw_below_drewN | apply below_drew1 | refine below_set ?_ GE299.out) | exact HB.out)) hb); clear BK299; clear HB; have BK299 := n0_; have HB := n1_; clear n0_ n1_; (try clear hb); (try clear hb2); (try clear hk); (try clear hi))); try go_wp2_with (first | (go_at_call 30; (with_reducible refine (strings_Repeat.calls (⟨#[48]⟩ : ByteArray) (wrap64 (-(wrap64 ((t301.size : Int) + a0_2)))) t303 _ A39.out).mono ?_); rintro e w43 ⟨rfl, hb⟩; have n0_ := Aside0.mk (blk_below (g := gb299) (o := .cells #[.bool a0_0, .int .i64 a0_1, .int .i64 a0_2] 27 (0, 0)) (by (with_reducible repeat (first | refine blk_drewN ?_ _ | refine blk_drew ?_ | refine blk_alloc ?_ _)); exact BK299.out) hb); have n1_ := Aside0.mk (below_step (by repeat (first | (with_reducible first | exact HB.out | apply below_alloc | apply pw_below_drewN | apply below_drew1 | refine below_set ?_ GE299.out) | exact HB.out)) hb); clear BK299; clear HB; have BK299 := n0_; have HB := n1_; clear n0_ n1_; (try clear hb); (try clear hb2); (try clear hk); (try clear hi))))
                            go_ret
                            exact ⟨by first | rfl | (simp [errW_none, errW_some] <;> rfl) | (simp [*, errW_none, errW_some] <;> rfl), by repeat (first | (with_reducible first | exact HB.out | apply below_alloc | apply pw_below_drewN | apply below_drew1 | refine below_set ?_ GE299.out) | exact HB.out)⟩
                          · rw [if_neg c41] at H
                            exact absurd H (by simp)
                        · rw [if_neg c40] at H
                          exact absurd H (by simp)
                      · rw [if_neg c38] at H
                        exact absurd H (by simp)
                  · replace c27 := Bool.eq_false_iff.mpr c27
                    subst c27
                    have H1 : (if 0 ≤ 1 then (if 1 ≤ (t301.size : Int) then (if x4_4.size + (t301.extract 0 1).size ≤ 9223372036854775807 then (if (t301.size : Int) > 1 then (if 1 + (t301.extract 1 t301.size).size ≤ 9223372036854775807 then (if (x4_4 ++ (t301.extract 0 1)).size + ((⟨#[46]⟩ : ByteArray) ++ (t301.extract 1 t301.size)).size ≤ 9223372036854775807 then (impl_DecText.j3 kj22 (wrap64 ((wrap64 ((t301.size : Int) - 1)) + a0_2)) ((x4_4 ++ (t301.extract 0 1)) ++ ((⟨#[46]⟩ : ByteArray) ++ (t301.extract 1 t301.size)))) else (none)) else (none)) else (impl_DecText.j3 kj22 (wrap64 ((wrap64 ((t301.size : Int) - 1)) + a0_2)) (x4_4 ++ (t301.extract 0 1)))) else (none)) else (none)) else (none)) = some r := by rw [if_neg (show ¬ (false = true) by decide)] at H; exact H
                    clear H
                    have H := H1
                    clear H1
                    by_cases c44 : 0 ≤ 1
                    · rw [if_pos c44] at H
                      have c44b0 := eq_true c44
                      have c44b1 : decide (0 ≤ 1) = true := decide_eq_true c44
                      clear c44
                      by_cases c45 : 1 ≤ (t301.size : Int)
                      · rw [if_pos c45] at H
                        have c45b0 := eq_true c45
                        have c45b1 : decide (1 ≤ (t301.size : Int)) = true := decide_eq_true c45
                        clear c45
                        by_cases c46 : x4_4.size + (t301.extract 0 1).size ≤ 9223372036854775807
                        · rw [if_pos c46] at H
                          have c46b0 := eq_true c46
                          have c46b1 : decide (x4_4.size + (t301.extract 0 1).size ≤ 9223372036854775807) = true := decide_eq_true c46
                          (try (have c46b06 := c46b0; simp only [ByteArray.size_extract, Nat.min_self, Nat.sub_zero] at c46b06))
                          (try (have c46b16 := c46b1; simp only [ByteArray.size_extract, Nat.min_self, Nat.sub_zero] at c46b16))
                          try have c46b2 : (9223372036854775807 < x4_4.size + (t301.extract 0 1).size) = False := eq_false (Nat.not_lt.2 c46)
                          try have c46b28 : (9223372036854775807 < x4_4.size + (min 1 t301.size)) = False := eq_false (Nat.not_lt.2 (by have h8_ := c46; simp only [ByteArray.size_append, ByteArray.size_extract, Nat.min_self, Nat.sub_zero] at h8_; exact h8_))
                          try have c46b27 : (9223372036854775807 < x4_4.size + (1)) = False := eq_false (Nat.not_lt.2 (by have h8_ := c46; simp only [ByteArray.size_append, ByteArray.size_extract, Nat.min_self, Nat.sub_zero] at h8_; (try have q_ := of_decide_eq_true c18b1); (try have q_ := of_decide_eq_true c20b1); (try have q_ := of_decide_eq_true c31b1); (try have q_ := of_decide_eq_true c38b1); (try have q_ := of_decide_eq_true c45b1); (try have q_ := of_decide_eq_true c46b1); (try have q_ := of_decide_eq_true c49b1); (try have q_ := of_decide_eq_true c51b1); omega))
                          have HC47 := Aside0.mk H
                          clear H
                          have hcz48_0 : wc.cell? ⟨gb299, 0, none⟩ = some (.bool a0_0) := (blk_cell BK299.out 0).trans rfl
                          have hcz48_1 : wc.cell? ⟨gb299, 1, none⟩ = some (.int .i64 a0_1) := (blk_cell BK299.out 1).trans rfl
                          have hcz48_2 : wc.cell? ⟨gb299, 2, none⟩ = some (.int .i64 a0_2) := (blk_cell BK299.out 2).trans rfl
                          have hfz48_0 := blk_frozen BK299.out 0
                          have hfz48_1 := blk_frozen BK299.out 1
                          have hfz48_2 := blk_frozen BK299.out 2
                          go_upto_if 90 with (fail)
                          repeat (go_quiet (fail); go_upto_if 90 with (fail))
                          go_cut [7] (fun v7 wc => ∃ (kq : Nat) (x7_46 : ByteArray), v7 = .string x7_46 ∧ Aside0 (impl_DecText.j3 kq (wrap64 ((wrap64 ((t301.size : Int) - 1)) + a0_2)) x7_46 = some r) ∧ Aside0 (kq ≤ kj22) ∧ Aside0 (wc.heap[gb299]? = some (.cells #[.bool a0_0, .int .i64 a0_1, .int .i64 a0_2] 27 (0, 0))) ∧ Aside0 (Below w.heap.size w wc))
                          case first =>
                            have H := HC47.out
                            clear HC47
                            by_cases c49 : (t301.size : Int) > 1
                            · rw [if_pos c49] at H
                              have c49b0 : decide (1 < (t301.size : Int)) = true := decide_eq_true c49
                              have c49b1 : decide (1 < t301.size) = true := decide_eq_true (by omega)
                              clear c49
                              (first | rw [c49b0] | (simp only [i64_w, i32_w]; rw [c49b0]) | skip)
                              have c50b0 := eq_true (of_decide_eq_true (by first | (with_reducible assumption) | assumption) : 1 ≤ (t301.size : Int))
                              by_cases c51 : 1 + (t301.extract 1 t301.size).size ≤ 9223372036854775807
                              · rw [if_pos c51] at H
                                have c51b0 := eq_true c51
                                have c51b1 : decide (1 + (t301.extract 1 t301.size).size ≤ 9223372036854775807) = true := decide_eq_true c51
                                (try (have c51b06 := c51b0; simp only [ByteArray.size_extract, Nat.min_self, Nat.sub_zero] at c51b06))
                                (try (have c51b16 := c51b1; simp only [ByteArray.size_extract, Nat.min_self, Nat.sub_zero] at c51b16))
                                try have c51b2 : (9223372036854775807 < 1 + (t301.extract 1 t301.size).size) = False := eq_false (Nat.not_lt.2 c51)
                                try have c51b28 : (9223372036854775807 < 1 + (t301.size - 1)) = False := eq_false (Nat.not_lt.2 (by have h8_ := c51; simp only [ByteArray.size_append, ByteArray.size_extract, Nat.min_self, Nat.sub_zero] at h8_; exact h8_))
                                by_cases c52 : (x4_4 ++ (t301.extract 0 1)).size + ((⟨#[46]⟩ : ByteArray) ++ (t301.extract 1 t301.size)).size ≤ 9223372036854775807
                                · rw [if_pos c52] at H
                                  have c52b0 := eq_true c52
                                  have c52b1 : decide ((x4_4 ++ (t301.extract 0 1)).size + ((⟨#[46]⟩ : ByteArray) ++ (t301.extract 1 t301.size)).size ≤ 9223372036854775807) = true := decide_eq_true c52
                                  (try (have c52b06 := c52b0; simp only [ByteArray.size_extract, Nat.min_self, Nat.sub_zero] at c52b06))
                                  (try (have c52b16 := c52b1; simp only [ByteArray.size_extract, Nat.min_self, Nat.sub_zero] at c52b16))
                                  try have c52b2 : (9223372036854775807 < (x4_4 ++ (t301.extract 0 1)).size + ((⟨#[46]⟩ : ByteArray) ++ (t301.extract 1 t301.size)).size) = False := eq_false (Nat.not_lt.2 c52)
                                  try have c52b28 : (9223372036854775807 < (x4_4.size + (min 1 t301.size)) + (1 + (t301.size - 1))) = False := eq_false (Nat.not_lt.2 (by have h8_ := c52; simp only [ByteArray.size_append, ByteArray.size_extract, Nat.min_self, Nat.sub_zero] at h8_; exact h8_))
                                  try have c52b27 : (9223372036854775807 < (x4_4.size + (1)) + (1 + (t301.size - 1))) = False := eq_false (Nat.not_lt.2 (by have h8_ := c52; simp only [ByteArray.size_append, ByteArray.size_extract, Nat.min_self, Nat.sub_zero] at h8_; (try have q_ := of_decide_eq_true c18b1); (try have q_ := of_decide_eq_true c20b1); (try have q_ := of_decide_eq_true c31b1); (try have q_ := of_decide_eq_true c38b1); (try have q_ := of_decide_eq_true c45b1); (try have q_ := of_decide_eq_true c46b1); (try have q_ := of_decide_eq_true c49b1); (try have q_ := of_decide_eq_true c51b1); have z_ : (⟨#[46]⟩ : ByteArray).size = 1 := rfl; omega))
                                  have H' := Aside0.mk H
                                  clear H
                                  go_wp2
                                  repeat (go_quiet (fail); try go_wp2)
                                  go_meet
                                  case rel => exact ⟨_, ((x4_4 ++ (t301.extract 0 1)) ++ ((⟨#[46]⟩ : ByteArray) ++ (t301.extract 1 t301.size))), (by first | rfl | (simp; done) | (simp [*]; done) | (simp; unfold wrap64; omega)), H', ⟨by have := HJ4.out; have := HJ12.out; have := HJ22.out; first | omega | exact Nat.le_refl _⟩, ⟨by (with_reducible repeat (first | refine blk_drewN ?_ _ | refine blk_drew ?_ | refine blk_alloc ?_ _)); exact BK299.out⟩, ⟨by repeat (first | (with_reducible first | exact HB.out | apply below_alloc | apply pw_below_drewN | apply below_drew1 | refine below_set ?_ GE299.out) | exact HB.out)⟩⟩
                                · rw [if_neg c52] at H
                                  exact absurd H (by simp)
                              · rw [if_neg c51] at H
                                exact absurd H (by simp)
                            · rw [if_neg c49] at H
                              have c49b0 : decide (1 < (t301.size : Int)) = false := decide_eq_false c49
                              have c49b1 : decide (1 < t301.size) = false := decide_eq_false (by omega)
                              clear c49
                              (first | rw [c49b0] | (simp only [i64_w, i32_w]; rw [c49b0]) | skip)
                              have H' := Aside0.mk H
                              clear H
                              go_wp2
                              repeat (go_quiet (fail); try go_wp2)
                              go_meet
                              case rel => exact ⟨_, (x4_4 ++ (t301.extract 0 1)), (by first | rfl | (simp; done) | (simp [*]; done) | (simp; unfold wrap64; omega)), H', ⟨by have := HJ4.out; have := HJ12.out; have := HJ22.out; first | omega | exact Nat.le_refl _⟩, ⟨by (with_reducible repeat (first | refine blk_drewN ?_ _ | refine blk_drew ?_ | refine blk_alloc ?_ _)); exact BK299.out⟩, ⟨by repeat (first | (with_reducible first | exact HB.out | apply below_alloc | apply pw_below_drewN | apply below_drew1 | refine below_set ?_ GE299.out) | exact HB.out)⟩⟩
                          case rest =>
                            clear HC47
                            try clear c1
                            try clear c2
                            try clear p2
                            try clear c3
                            try clear c4
                            try clear c5
                            try clear p6
                            try clear c12
                            try clear c14
                            try clear c14b0
                            try clear c17
                            try clear c18
                            try clear c18b0
                            try clear c18b1
                            try clear c18b2
                            try clear c20
                            try clear c20b0
                            try clear c20b1
                            try clear c20b2
                            try clear c24
                            try clear c24b0
                            try clear c26
                            try clear c27
                            try clear c28
                            try clear c28b0
                            try clear c30
                            try clear c30b0
                            try clear c30b1
                            try clear c31
                            try clear c31b0
                            try clear c31b1
                            try clear c32
                            try clear c32b0
                            try clear c32b1
                            try clear c32b2
                            try clear c33
                            try clear c33b0
                            try clear c33b1
                            try clear c33b2
                            try clear c34
                            try clear c34b0
                            try clear c35
                            try clear c35b0
                            try clear c36
                            try clear c36b0
                            try clear c36b1
                            try clear c36b2
                            try clear c38
                            try clear c38b0
                            try clear c38b1
                            try clear c38b2
                            try clear c40
                            try clear c40b0
                            try clear c40b1
                            try clear c40b2
                            try clear c41
                            try clear c41b0
                            try clear c41b1
                            try clear c41b2
                            try clear c44
                            try clear c44b0
                            try clear c44b1
                            try clear c45
                            try clear c45b0
                            try clear c45b1
                            try clear c46
                            try clear c46b0
                            try clear c46b1
                            try clear c46b2
                            try clear c49
                            try clear c49b0
                            try clear c49b1
                            try clear c50
                            try clear c50b0
                            try clear c51
                            try clear c51b0
                            try clear c51b1
                            try clear c51b2
                            try clear c52
                            try clear c52b0
                            try clear c52b1
                            try clear c52b2
                            try clear hcz11_0
                            try clear hcz11_1
                            try clear hcz11_2
                            try clear hcz15_0
                            try clear hcz15_1
                            try clear hcz15_2
                            try clear hcz16_0
                            try clear hcz16_1
                            try clear hcz16_2
                            try clear hcz21_0
                            try clear hcz21_1
                            try clear hcz21_2
                            try clear hcz25_0
                            try clear hcz25_1
                            try clear hcz25_2
                            try clear hcz26_0
                            try clear hcz26_1
                            try clear hcz26_2
                            try clear hcz37_0
                            try clear hcz37_1
                            try clear hcz37_2
                            try clear hcz42_0
                            try clear hcz42_1
                            try clear hcz42_2
                            try clear hcz48_0
                            try clear hcz48_1
                            try clear hcz48_2
                            try clear hcz7_0
                            try clear hcz7_1
                            try clear hcz7_2
                            try clear hcz9_0
                            try clear hcz9_1
                            try clear hcz9_2
                            try clear hfz11_0
                            try clear hfz11_1
                            try clear hfz11_2
                            try clear hfz15_0
                            try clear hfz15_1
                            try clear hfz15_2
                            try clear hfz16_0
                            try clear hfz16_1
                            try clear hfz16_2
                            try clear hfz21_0
                            try clear hfz21_1
                            try clear hfz21_2
                            try clear hfz25_0
                            try clear hfz25_1
                            try clear hfz25_2
                            try clear hfz26_0
                            try clear hfz26_1
                            try clear hfz26_2
                            try clear hfz37_0
                            try clear hfz37_1
                            try clear hfz37_2
                            try clear hfz42_0
                            try clear hfz42_1
                            try clear hfz42_2
                            try clear hfz48_0
                            try clear hfz48_1
                            try clear hfz48_2
                            try clear hfz7_0
                            try clear hfz7_1
                            try clear hfz7_2
                            try clear hfz9_0
                            try clear hfz9_1
                            try clear hfz9_2
                            try clear p2
                            try clear p6
                            obtain ⟨kq, x7_46, rfl, HA, HJ46, BK299, HB⟩ := hcut
                            cases kq with
                            | zero => exact absurd HA.out (by simp [impl_DecText.j3])
                            | succ kj46 =>
                              have H := HA.out
                              clear HA
                              simp only [impl_DecText.j3] at H
                              by_cases c53 : (wrap64 ((wrap64 ((t301.size : Int) - 1)) + a0_2)) < 0
                              · rw [if_pos c53] at H
                                have c53b0 : decide ((wrap64 ((wrap64 ((t301.size : Int) - 1)) + a0_2)) < 0) = true := decide_eq_true c53
                                clear c53
                                by_cases c54 : x7_46.size + 2 ≤ 9223372036854775807
                                · rw [if_pos c54] at H
                                  have c54b0 := eq_true c54
                                  have c54b1 : decide (x7_46.size + 2 ≤ 9223372036854775807) = true := decide_eq_true c54
                                  try have c54b2 : (9223372036854775807 < x7_46.size + 2) = False := eq_false (Nat.not_lt.2 c54)
                                  replace H := Option.bind_eq_some_iff.mp H
                                  obtain ⟨t304, A550, H⟩ := H
                                  replace H : (if (x7_46 ++ (⟨#[69, 45]⟩ : ByteArray)).size + t304.size ≤ 9223372036854775807 then (some ((x7_46 ++ (⟨#[69, 45]⟩ : ByteArray)) ++ t304)) else (none)) = some r := H
                                  have A55 := Aside0.mk A550
                                  clear A550
                                  by_cases c56 : (x7_46 ++ (⟨#[69, 45]⟩ : ByteArray)).size + t304.size ≤ 9223372036854775807
                                  · rw [if_pos c56] at H
                                    have c56b0 := eq_true c56
                                    have c56b1 : decide ((x7_46 ++ (⟨#[69, 45]⟩ : ByteArray)).size + t304.size ≤ 9223372036854775807) = true := decide_eq_true c56
                                    try have c56b2 : (9223372036854775807 < (x7_46 ++ (⟨#[69, 45]⟩ : ByteArray)).size + t304.size) = False := eq_false (Nat.not_lt.2 c56)
                                    try have c56b28 : (9223372036854775807 < (x7_46.size + 2) + t304.size) = False := eq_false (Nat.not_lt.2 (by have h8_ := c56; simp only [ByteArray.size_append, ByteArray.size_extract, Nat.min_self, Nat.sub_zero] at h8_; exact h8_))
                                    obtain rfl := Option.some.inj H
                                    go_wp2_with (first | (go_at_call 54; (with_reducible refine (strconv_Itoa.calls (wrap64 (-(wrap64 ((wrap64 ((t301.size : Int) - 1)) + a0_2)))) t304 _ (hT.below (by repeat (first | exact HB.out | exact Below.refl _ _ | apply below_alloc | apply pw_below_drewN | apply below_drew1 | refine below_set ?_ GE299.out))) A55.out).mono ?_); rintro e w57 ⟨rfl, hb⟩; have n0_ := Aside0.mk (blk_below (g := gb299) (o := .cells #[.bool a0_0, .int .i64 a0_1, .int .i64 a0_2] 27 (0, 0)) (by (with_reducible repeat (first | refine blk_drewN ?_ _ | refine blk_drew ?_ | refine blk_alloc ?_ _)); exact BK299.out) hb); have n1_ := Aside0.mk (below_step (by repeat (first | (with_reducible first | exact HB.out | apply below_alloc | apply pw_below_drewN | apply below_drew1 | refine below_set ?_ GE299.out) | exact HB.out)) hb); clear BK299; clear HB; have BK299 := n0_; have HB := n1_; clear n0_ n1_; (try clear hb); (try clear hb2); (try clear hk); (try clear hi)))
                                    repeat (go_quiet (first | (go_at_call 54; (with_reducible refine (strconv_Itoa.calls (wrap64 (-(wrap64 ((wrap64 ((t301.size : Int) - 1)) + a0_2)))) t304 _ (hT.below (by repeat (first | exact HB.out | exact Below.refl _ _ | apply below_alloc | apply pw_below_drewN | apply below_drew1 | refine below_set ?_ GE299.out))) A55.out).mono ?_); rintro e w57 ⟨rfl, hb⟩; have n0_ := Aside0.mk (blk_below (g := gb299) (o := .cells #[.bool a0_0, .int .i64 a0_1, .int .i64 a0_2] 27 (0, 0)) (by (with_reducible repeat (first | refine blk_drewN ?_ _ | refine blk_drew ?_ | refine blk_alloc ?_ _)); exact BK299.out) hb); have n1_ := Aside0.mk (below_step (by repeat (first | (with_reducible first | exact HB.out | apply below_alloc | apply pw_below_drewN | apply below_drew1 | refine below_set ?_ GE299.out) | exact HB.out)) hb); clear BK299; clear HB; have BK299 := n0_; have HB := n1_; clear n0_ n1_; (try clear hb); (try clear hb2); (try clear hk); (try clear hi))); try go_wp2_with (first | (go_at_call 54; (with_reducible refine (strconv_Itoa.calls (wrap64 (-(wrap64 ((wrap64 ((t301.size : Int) - 1)) + a0_2)))) t304 _ (hT.below (by repeat (first | exact HB.out | exact Below.refl _ _ | apply below_alloc | apply pw_below_drewN | apply below_drew1 | refine below_set ?_ GE299.out))) A55.out).mono ?_); rintro e w57 ⟨rfl, hb⟩; have n0_ := Aside0.mk (blk_below (g := gb299) (o := .cells #[.bool a0_0, .int .i64 a0_1, .int .i64 a0_2] 27 (0, 0)) (by (with_reducible repeat (first | refine blk_drewN ?_ _ | refine blk_drew ?_ | refine blk_alloc ?_ _)); exact BK299.out) hb); have n1_ := Aside0.mk (below_step (by repeat (first | (with_reducible first | exact HB.out | apply below_alloc | apply pw_below_drewN | apply below_drew1 | refine below_set ?_ GE299.out) | exact HB.out)) hb); clear BK299; clear HB; have BK299 := n0_; have HB := n1_; clear n0_ n1_; (try clear hb); (try clear hb2); (try clear hk); (try clear hi))))
                                    go_ret
                                    exact ⟨by first | rfl | (simp [errW_none, errW_some] <;> rfl) | (simp [*, errW_none, errW_some] <;> rfl), by repeat (first | (with_reducible first | exact HB.out | apply below_alloc | apply pw_below_drewN | apply below_drew1 | refine below_set ?_ GE299.out) | exact HB.out)⟩
                                  · rw [if_neg c56] at H
                                    exact absurd H (by simp)
                                · rw [if_neg c54] at H
                                  exact absurd H (by simp)
                              · rw [if_neg c53] at H
                                have c53b0 : decide ((wrap64 ((wrap64 ((t301.size : Int) - 1)) + a0_2)) < 0) = false := decide_eq_false c53
                                clear c53
                                by_cases c58 : x7_46.size + 2 ≤ 9223372036854775807
                                · rw [if_pos c58] at H
                                  have c58b0 := eq_true c58
                                  have c58b1 : decide (x7_46.size + 2 ≤ 9223372036854775807) = true := decide_eq_true c58
                                  try have c58b2 : (9223372036854775807 < x7_46.size + 2) = False := eq_false (Nat.not_lt.2 c58)
                                  replace H := Option.bind_eq_some_iff.mp H
                                  obtain ⟨t305, A590, H⟩ := H
                                  replace H : (if (x7_46 ++ (⟨#[69, 43]⟩ : ByteArray)).size + t305.size ≤ 9223372036854775807 then (some ((x7_46 ++ (⟨#[69, 43]⟩ : ByteArray)) ++ t305)) else (none)) = some r := H
                                  have A59 := Aside0.mk A590
                                  clear A590
                                  by_cases c60 : (x7_46 ++ (⟨#[69, 43]⟩ : ByteArray)).size + t305.size ≤ 9223372036854775807
                                  · rw [if_pos c60] at H
                                    have c60b0 := eq_true c60
                                    have c60b1 : decide ((x7_46 ++ (⟨#[69, 43]⟩ : ByteArray)).size + t305.size ≤ 9223372036854775807) = true := decide_eq_true c60
                                    try have c60b2 : (9223372036854775807 < (x7_46 ++ (⟨#[69, 43]⟩ : ByteArray)).size + t305.size) = False := eq_false (Nat.not_lt.2 c60)
                                    try have c60b28 : (9223372036854775807 < (x7_46.size + 2) + t305.size) = False := eq_false (Nat.not_lt.2 (by have h8_ := c60; simp only [ByteArray.size_append, ByteArray.size_extract, Nat.min_self, Nat.sub_zero] at h8_; exact h8_))
                                    obtain rfl := Option.some.inj H
                                    go_wp2_with (first | (go_at_call 54; (with_reducible refine (strconv_Itoa.calls (wrap64 ((wrap64 ((t301.size : Int) - 1)) + a0_2)) t305 _ (hT.below (by repeat (first | exact HB.out | exact Below.refl _ _ | apply below_alloc | apply pw_below_drewN | apply below_drew1 | refine below_set ?_ GE299.out))) A59.out).mono ?_); rintro e w61 ⟨rfl, hb⟩; have n0_ := Aside0.mk (blk_below (g := gb299) (o := .cells #[.bool a0_0, .int .i64 a0_1, .int .i64 a0_2] 27 (0, 0)) (by (with_reducible repeat (first | refine blk_drewN ?_ _ | refine blk_drew ?_ | refine blk_alloc ?_ _)); exact BK299.out) hb); have n1_ := Aside0.mk (below_step (by repeat (first | (with_reducible first | exact HB.out | apply below_alloc | apply pw_below_drewN | apply below_drew1 | refine below_set ?_ GE299.out) | exact HB.out)) hb); clear BK299; clear HB; have BK299 := n0_; have HB := n1_; clear n0_ n1_; (try clear hb); (try clear hb2); (try clear hk); (try clear hi)))
                                    repeat (go_quiet (first | (go_at_call 54; (with_reducible refine (strconv_Itoa.calls (wrap64 ((wrap64 ((t301.size : Int) - 1)) + a0_2)) t305 _ (hT.below (by repeat (first | exact HB.out | exact Below.refl _ _ | apply below_alloc | apply pw_below_drewN | apply below_drew1 | refine below_set ?_ GE299.out))) A59.out).mono ?_); rintro e w61 ⟨rfl, hb⟩; have n0_ := Aside0.mk (blk_below (g := gb299) (o := .cells #[.bool a0_0, .int .i64 a0_1, .int .i64 a0_2] 27 (0, 0)) (by (with_reducible repeat (first | refine blk_drewN ?_ _ | refine blk_drew ?_ | refine blk_alloc ?_ _)); exact BK299.out) hb); have n1_ := Aside0.mk (below_step (by repeat (first | (with_reducible first | exact HB.out | apply below_alloc | apply pw_below_drewN | apply below_drew1 | refine below_set ?_ GE299.out) | exact HB.out)) hb); clear BK299; clear HB; have BK299 := n0_; have HB := n1_; clear n0_ n1_; (try clear hb); (try clear hb2); (try clear hk); (try clear hi))); try go_wp2_with (first | (go_at_call 54; (with_reducible refine (strconv_Itoa.calls (wrap64 ((wrap64 ((t301.size : Int) - 1)) + a0_2)) t305 _ (hT.below (by repeat (first | exact HB.out | exact Below.refl _ _ | apply below_alloc | apply pw_below_drewN | apply below_drew1 | refine below_set ?_ GE299.out))) A59.out).mono ?_); rintro e w61 ⟨rfl, hb⟩; have n0_ := Aside0.mk (blk_below (g := gb299) (o := .cells #[.bool a0_0, .int .i64 a0_1, .int .i64 a0_2] 27 (0, 0)) (by (with_reducible repeat (first | refine blk_drewN ?_ _ | refine blk_drew ?_ | refine blk_alloc ?_ _)); exact BK299.out) hb); have n1_ := Aside0.mk (below_step (by repeat (first | (with_reducible first | exact HB.out | apply below_alloc | apply pw_below_drewN | apply below_drew1 | refine below_set ?_ GE299.out) | exact HB.out)) hb); clear BK299; clear HB; have BK299 := n0_; have HB := n1_; clear n0_ n1_; (try clear hb); (try clear hb2); (try clear hk); (try clear hi))))
                                    go_ret
                                    exact ⟨by first | rfl | (simp [errW_none, errW_some] <;> rfl) | (simp [*, errW_none, errW_some] <;> rfl), by repeat (first | (with_reducible first | exact HB.out | apply below_alloc | apply pw_below_drewN | apply below_drew1 | refine below_set ?_ GE299.out) | exact HB.out)⟩
                                  · rw [if_neg c60] at H
                                    exact absurd H (by simp)
                                · rw [if_neg c58] at H
                                  exact absurd H (by simp)
                        · rw [if_neg c46] at H
                          exact absurd H (by simp)
                      · rw [if_neg c45] at H
                        exact absurd H (by simp)
                    · rw [if_neg c44] at H
                      exact absurd H (by simp)
  · replace c3 := Bool.eq_false_iff.mpr c3
    subst c3
    have H1 : (some (⟨#[]⟩ : ByteArray)) = some r := by rw [if_neg (show ¬ (false = true) by decide)] at H; exact H
    clear H
    have H := H1
    clear H1
    obtain rfl := Option.some.inj H
    go_enter Tryd.func26, Tryd.ntmps26
    go_wp2_with (first | ((with_reducible refine gate_dst (N := 1) rfl ?_); refine box_event ?hg (N := 1) ?hd (cs := #[.bool a0_0, .int .i64 a0_1, .int .i64 a0_2]) (t := 27) ?hr ?_; (case hd => rfl); (case hg => rfl); (case hr => first | (go_simp; done) | (go_simp; rfl)); intro gb299 hg w62 hbox hb; have n0_ := Aside0.mk (below_step (by repeat (first | (with_reducible first | exact HB.out | apply below_alloc | apply pw_below_drewN | apply below_drew1) | exact HB.out)) hb); have n1_ := Aside0.mk (hbox); have n2_ := Aside0.mk ((by rw [hg]; exact (below_size (by repeat (first | (with_reducible first | exact HB.out | apply below_alloc | apply pw_below_drewN | apply below_drew1) | exact HB.out))) : w.heap.size ≤ gb299)); have n3_ := Aside0.mk ((by rw [hg]; exact (below_size (by repeat (first | (with_reducible first | exact HB.out | apply below_alloc | apply pw_below_drewN | apply below_drew1) | exact HB.out))) : w.heap.size ≤ gb299)); clear HB; have HB := n0_; have BK299 := n1_; have GW299 := n2_; have GE299 := n3_; clear n0_ n1_ n2_ n3_; clear hb hbox hg; have hcz63_0 : w62.cell? ⟨gb299, 0, none⟩ = some (.bool a0_0) := (blk_cell BK299.out 0).trans rfl; have hcz63_1 : w62.cell? ⟨gb299, 1, none⟩ = some (.int .i64 a0_1) := (blk_cell BK299.out 1).trans rfl; have hcz63_2 : w62.cell? ⟨gb299, 2, none⟩ = some (.int .i64 a0_2) := (blk_cell BK299.out 2).trans rfl; have hfz63_0 := blk_frozen BK299.out 0; have hfz63_1 := blk_frozen BK299.out 1; have hfz63_2 := blk_frozen BK299.out 2) | (go_at_call 51; (with_reducible refine (impl_isGoodDec.calls a0_0 a0_1 a0_2 false _ A2.out).mono ?_); rintro e w64 ⟨rfl, hb⟩; have n0_ := Aside0.mk (blk_below (g := gb299) (o := .cells #[.bool a0_0, .int .i64 a0_1, .int .i64 a0_2] 27 (0, 0)) (by (with_reducible repeat (first | refine blk_drewN ?_ _ | refine blk_drew ?_ | refine blk_alloc ?_ _)); exact BK299.out) hb); have n1_ := Aside0.mk (below_step (by repeat (first | (with_reducible first | exact HB.out | apply below_alloc | apply pw_below_drewN | apply below_drew1 | refine below_set ?_ GE299.out) | exact HB.out)) hb); clear BK299; clear HB; have BK299 := n0_; have HB := n1_; clear n0_ n1_; (try clear hb); (try clear hb2); (try clear hk); (try clear hi)))
    repeat (go_quiet (first | ((with_reducible refine gate_dst (N := 1) rfl ?_); refine box_event ?hg (N := 1) ?hd (cs := #[.bool a0_0, .int .i64 a0_1, .int .i64 a0_2]) (t := 27) ?hr ?_; (case hd => rfl); (case hg => rfl); (case hr => first | (go_simp; done) | (go_simp; rfl)); intro gb299 hg w62 hbox hb; have n0_ := Aside0.mk (below_step (by repeat (first | (with_reducible first | exact HB.out | apply below_alloc | apply pw_below_drewN | apply below_drew1) | exact HB.out)) hb); have n1_ := Aside0.mk (hbox); have n2_ := Aside0.mk ((by rw [hg]; exact (below_size (by repeat (first | (with_reducible first | exact HB.out | apply below_alloc | apply pw_below_drewN | apply below_drew1) | exact HB.out))) : w.heap.size ≤ gb299)); have n3_ := Aside0.mk ((by rw [hg]; exact (below_size (by repeat (first | (with_reducible first | exact HB.out | apply below_alloc | apply pw_below_drewN | apply below_drew1) | exact HB.out))) : w.heap.size ≤ gb299)); clear HB; have HB := n0_; have BK299 := n1_; have GW299 := n2_; have GE299 := n3_; clear n0_ n1_ n2_ n3_; clear hb hbox hg; have hcz63_0 : w62.cell? ⟨gb299, 0, none⟩ = some (.bool a0_0) := (blk_cell BK299.out 0).trans rfl; have hcz63_1 : w62.cell? ⟨gb299, 1, none⟩ = some (.int .i64 a0_1) := (blk_cell BK299.out 1).trans rfl; have hcz63_2 : w62.cell? ⟨gb299, 2, none⟩ = some (.int .i64 a0_2) := (blk_cell BK299.out 2).trans rfl; have hfz63_0 := blk_frozen BK299.out 0; have hfz63_1 := blk_frozen BK299.out 1; have hfz63_2 := blk_frozen BK299.out 2) | (go_at_call 51; (with_reducible refine (impl_isGoodDec.calls a0_0 a0_1 a0_2 false _ A2.out).mono ?_); rintro e w64 ⟨rfl, hb⟩; have n0_ := Aside0.mk (blk_below (g := gb299) (o := .cells #[.bool a0_0, .int .i64 a0_1, .int .i64 a0_2] 27 (0, 0)) (by (with_reducible repeat (first | refine blk_drewN ?_ _ | refine blk_drew ?_ | refine blk_alloc ?_ _)); exact BK299.out) hb); have n1_ := Aside0.mk (below_step (by repeat (first | (with_reducible first | exact HB.out | apply below_alloc | apply pw_below_drewN | apply below_drew1 | refine below_set ?_ GE299.out) | exact HB.out)) hb); clear BK299; clear HB; have BK299 := n0_; have HB := n1_; clear n0_ n1_; (try clear hb); (try clear hb2); (try clear hk); (try clear hi))); try go_wp2_with (first | ((with_reducible refine gate_dst (N := 1) rfl ?_); refine box_event ?hg (N := 1) ?hd (cs := #[.bool a0_0, .int .i64 a0_1, .int .i64 a0_2]) (t := 27) ?hr ?_; (case hd => rfl); (case hg => rfl); (case hr => first | (go_simp; done) | (go_simp; rfl)); intro gb299 hg w62 hbox hb; have n0_ := Aside0.mk (below_step (by repeat (first | (with_reducible first | exact HB.out | apply below_alloc | apply pw_below_drewN | apply below_drew1) | exact HB.out)) hb); have n1_ := Aside0.mk (hbox); have n2_ := Aside0.mk ((by rw [hg]; exact (below_size (by repeat (first | (with_reducible first | exact HB.out | apply below_alloc | apply pw_below_drewN | apply below_drew1) | exact HB.out))) : w.heap.size ≤ gb299)); have n3_ := Aside0.mk ((by rw [hg]; exact (below_size (by repeat (first | (with_reducible first | exact HB.out | apply below_alloc | apply pw_below_drewN | apply below_drew1) | exact HB.out))) : w.heap.size ≤ gb299)); clear HB; have HB := n0_; have BK299 := n1_; have GW299 := n2_; have GE299 := n3_; clear n0_ n1_ n2_ n3_; clear hb hbox hg; have hcz63_0 : w62.cell? ⟨gb299, 0, none⟩ = some (.bool a0_0) := (blk_cell BK299.out 0).trans rfl; have hcz63_1 : w62.cell? ⟨gb299, 1, none⟩ = some (.int .i64 a0_1) := (blk_cell BK299.out 1).trans rfl; have hcz63_2 : w62.cell? ⟨gb299, 2, none⟩ = some (.int .i64 a0_2) := (blk_cell BK299.out 2).trans rfl; have hfz63_0 := blk_frozen BK299.out 0; have hfz63_1 := blk_frozen BK299.out 1; have hfz63_2 := blk_frozen BK299.out 2) | (go_at_call 51; (with_reducible refine (impl_isGoodDec.calls a0_0 a0_1 a0_2 false _ A2.out).mono ?_); rintro e w64 ⟨rfl, hb⟩; have n0_ := Aside0.mk (blk_below (g := gb299) (o := .cells #[.bool a0_0, .int .i64 a0_1, .int .i64 a0_2] 27 (0, 0)) (by (with_reducible repeat (first | refine blk_drewN ?_ _ | refine blk_drew ?_ | refine blk_alloc ?_ _)); exact BK299.out) hb); have n1_ := Aside0.mk (below_step (by repeat (first | (with_reducible first | exact HB.out | apply below_alloc | apply pw_below_drewN | apply below_drew1 | refine below_set ?_ GE299.out) | exact HB.out)) hb); clear BK299; clear HB; have BK299 := n0_; have HB := n1_; clear n0_ n1_; (try clear hb); (try clear hb2); (try clear hk); (try clear hi))))
    go_ret
    exact ⟨by first | rfl | (simp [errW_none, errW_some] <;> rfl) | (simp [*, errW_none, errW_some] <;> rfl), by repeat (first | (with_reducible first | exact HB.out | apply below_alloc | apply pw_below_drewN | apply below_drew1 | refine below_set ?_ GE299.out) | exact HB.out)⟩

end Go.Proofs.YtghglglbajnncaaDoor.PFnExactCellField
