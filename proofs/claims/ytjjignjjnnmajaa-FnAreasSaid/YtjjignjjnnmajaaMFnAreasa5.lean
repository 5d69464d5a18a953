/- Functions of the program as Lean functions, and proofs that the Go code comes to their answers: for the law FnAreas; made out of the print by a program of mine (compact.py). No conditions but each theorem's own. -/
import Derived.Test.YtjjignjjnnmajaaMFnAreasa0
import Derived.Test.YtjjignjjnnmajaaMFnAreasa3
import Derived.Test.YtjjignjjnnmajaaMFnAreasa4
namespace Go.Proofs.Ytjjignjjnnmajaa.PFnAreas
open List (map_toArray map_cons map_nil length_drop length_take set_cons_zero set_cons_succ setIfInBounds_toArray)
open Go.RowKit Go.Proofs.YtjjignjjnnmajaaW.PrintWords Go.Proofs.YtjjignjjnnmajaaW.PrintLast Go.Proofs.YtjjignjjnnmajaaW.PrintMore
attribute [local go_sem] max2_int min2_int max_two min_two max_three min_three max_four min_four   -- for this text's walks alone
set_option linter.unusedVariables false
set_option linter.unusedSimpArgs false

attribute [local go_sem high] eqA26
set_option maxHeartbeats 8000000 in
set_option maxRecDepth 100000 in
theorem impl_Meet.calls (k : Nat) (a0_0 : Int) (a0_1 : Int) (a0_2 : Bool) (a0_3 : Bool) (a0_4 : Int) (a0_5 : Int) (a0_6 : Bool) (a0_7 : Bool) (a1_0 : Int) (a1_1 : Int) (a1_2 : Bool) (a1_3 : Bool) (a1_4 : Int) (a1_5 : Int) (a1_6 : Bool) (a1_7 : Bool) (r1 : Int) (r2 : Int) (r3 : Bool) (r4 : Bool) (r5 : Int) (r6 : Int) (r7 : Bool) (r8 : Bool) (r9 : Bool) (w : World) (h : impl_Meet.f k a0_0 a0_1 a0_2 a0_3 a0_4 a0_5 a0_6 a0_7 a1_0 a1_1 a1_2 a1_3 a1_4 a1_5 a1_6 a1_7 = some (r1, r2, r3, r4, r5, r6, r7, r8, r9)) :
  Calls Try.prog 5 #[.agg #[.int .i64 a0_0, .int .i64 a0_1, .bool a0_2, .bool a0_3, .int .i64 a0_4, .int .i64 a0_5, .bool a0_6, .bool a0_7], .agg #[.int .i64 a1_0, .int .i64 a1_1, .bool a1_2, .bool a1_3, .int .i64 a1_4, .int .i64 a1_5, .bool a1_6, .bool a1_7]] w fun e w' => e = .returned (.tuple #[.agg #[.int .i64 r1, .int .i64 r2, .bool r3, .bool r4, .int .i64 r5, .int .i64 r6, .bool r7, .bool r8], .bool r9]) ∧ Below w.heap.size w w' := by
 have H : ((impl_GoodArea.f a0_0 a0_1 a0_2 a0_3 a0_4 a0_5 a0_6 a0_7).bind fun t245 => (if t245 = true then ((impl_GoodArea.f a1_0 a1_1 a1_2 a1_3 a1_4 a1_5 a1_6 a1_7).bind fun t246 => (impl_Meet.j0 k (!t246) a0_0 a0_1 a0_2 a0_3 a0_4 a0_5 a0_6 a0_7 a1_0 a1_1 a1_2 a1_3 a1_4 a1_5 a1_6 a1_7)) else (impl_Meet.j0 k true a0_0 a0_1 a0_2 a0_3 a0_4 a0_5 a0_6 a0_7 a1_0 a1_1 a1_2 a1_3 a1_4 a1_5 a1_6 a1_7))) = some (r1, r2, r3, r4, r5, r6, r7, r8, r9) := h
 exact impl_Meet.calls_p1 k a0_0 a0_1 a0_2 a0_3 a0_4 a0_5 a0_6 a0_7 a1_0 a1_1 a1_2 a1_3 a1_4 a1_5 a1_6 a1_7 r1 r2 r3 r4 r5 r6 r7 r8 r9 w H

/-! ### impl_Without: function 6 -/

def areaV (r c tr tc : Int) : S26 := ⟨⟨r, c, false, false⟩, ⟨tr, tc, false, false⟩⟩

def pieceV (r c tr tc : Int) : List S26 := if r ≤ tr ∧ c ≤ tc then [areaV r c tr tc] else []

def piecesV (xr xc xt xu yr yc yt yu : Int) : List S26 :=
 pieceV xr xc (mn xt (wrap64 (yr - 1))) xu ++ pieceV (mx xr (wrap64 (yt + 1))) xc xt xu ++ pieceV (mx xr yr) xc (mn xt yt) (mn xu (wrap64 (yc - 1))) ++ pieceV (mx xr yr) (mx xc (wrap64 (yu + 1))) (mn xt yt) xu

def impl_Without.f (a0_0 : Int) (a0_1 : Int) (a0_2 : Bool) (a0_3 : Bool) (a0_4 : Int) (a0_5 : Int) (a0_6 : Bool) (a0_7 : Bool) (a1_0 : Int) (a1_1 : Int) (a1_2 : Bool) (a1_3 : Bool) (a1_4 : Int) (a1_5 : Int) (a1_6 : Bool) (a1_7 : Bool) : Option (List S26) :=
 (impl_GoodArea.f a0_0 a0_1 a0_2 a0_3 a0_4 a0_5 a0_6 a0_7).bind fun g => if g = true then ((impl_GoodArea.f a1_0 a1_1 a1_2 a1_3 a1_4 a1_5 a1_6 a1_7).bind fun h => if h = true then ((impl_Meet.f 9 a0_0 a0_1 a0_2 a0_3 a0_4 a0_5 a0_6 a0_7 a1_0 a1_1 a1_2 a1_3 a1_4 a1_5 a1_6 a1_7).bind fun m =>
  some (if m.2.2.2.2.2.2.2.2 = true then piecesV (mn a0_0 a0_4) (mn a0_1 a0_5) (mx a0_0 a0_4) (mx a0_1 a0_5) (mn a1_0 a1_4) (mn a1_1 a1_5) (mx a1_0 a1_4) (mx a1_1 a1_5) else [areaV (mn a0_0 a0_4) (mn a0_1 a0_5) (mx a0_0 a0_4) (mx a0_1 a0_5)])) else some []) else some []

theorem woCellDrew {W : World} {b i : Nat} {v : Value} (h : W.cell? ⟨b, i, none⟩ = some v) : W.drew.cell? ⟨b, i, none⟩ = some v := h

/-- What of a world stays behind a call of the closure: each block that is neither the variable nor of the areas' type. -/
def WoK (w w' : World) (g : Nat) : Prop := ∀ k cs t fr, t ≠ 26 → k ≠ g → w.heap[k]? = some (.cells cs t fr) → w'.heap[k]? = some (.cells cs t fr)

theorem add_after {W1 W w1 : World} {g b : Nat} {v : Value} {xs : List S26} {base : Nat} {cs : Array Value} (hb : Below W1.heap.size W1 W) (hR : Kd.R k26 26 W1 base (fun _ => True) v xs) (hg : W1.heap[g]? = some (.cells #[v] 31 (0, 0))) (hx : W1.heap[b]? = some (.cells cs 41 (0, 0))) (hgr : W.grownBy w1 v.ownBlock) :
  w1.heap[g]? = some (.cells #[v] 31 (0, 0)) ∧ w1.heap[b]? = some (.cells cs 41 (0, 0)) := by
 have hRW := Kd.R_below hR hb
 exact ⟨blk_grown (z2q hg hb) hgr (Kd.R_ne hRW (z2q hg hb) (by decide)), blk_grown (z2q hx hb) hgr (Kd.R_ne hRW (z2q hx hb) (by decide))⟩

theorem add_wok {w W1 W w1 : World} {g : Nat} {v v1 : Value} {xs : List S26} {base : Nat} (hw : Below w.heap.size w W1) (hb : Below W1.heap.size W1 W) (hR : Kd.R k26 26 W1 base (fun _ => True) v xs) (hgr : W.grownBy w1 v.ownBlock) : WoK w (w1.setCell ⟨g, 0, none⟩ v1) g := by
 intro k cs t fr ht hk h
 have h1 := z2q (z2q h hw) hb
 have hne : some k ≠ v.ownBlock := by
  intro e
  obtain ⟨cells, hc⟩ := own_typed (Kd.R_below hR hb).2.choose_spec.1 k e.symm
  rw [hc] at h1
  injection h1 with h1; injection h1 with _ h1
  exact ht h1.symm
 exact (Below.heap_setCell w1 ⟨g, 0, none⟩ v1 k hk).trans ((hgr.block k (z14q h1) hne).trans h1)

set_option maxHeartbeats 4000000 in
set_option maxRecDepth 100000 in
/-- The closure: where ok, what it captured grows by the area of the block. -/
theorem Without_add (r c tr tc : Int) (ok : Bool) (g : Nat) (v : Value) (xs : List S26) (w0 w : World) (hR : Kd.R k26 26 w w0.heap.size (fun _ => True) v xs) (hl : xs.length ≤ 100) (hB : Below w0.heap.size w0 w) (hg : w.heap[g]? = some (.cells #[v] 31 (0, 0))) (hgb : w0.heap.size ≤ g) :
  Calls Try.prog 19 #[.agg #[.int .i64 r, .int .i64 c, .int .i64 tr, .int .i64 tc], .bool ok, .pointer (some ⟨g, 0, none⟩)] w fun e w' => e = .returned (.tuple #[]) ∧ ∃ v', w'.heap[g]? = some (.cells #[v'] 31 (0, 0)) ∧ Kd.R k26 26 w' w0.heap.size (fun _ => True) v' (xs ++ (if ok = true then [areaV r c tr tc] else [])) ∧ Below w0.heap.size w0 w' ∧ WoK w w' g := by
 have hsz := World.size_alloc w (.cells #[.int .i64 r, .int .i64 c, .int .i64 tr, .int .i64 tc] 41)
 have hbw : Below w.heap.size w (w.alloc (.cells #[.int .i64 r, .int .i64 c, .int .i64 tr, .int .i64 tc] 41)) := z7q (Below.refl _ _) _
 have hgl := z14q hg
 have hc0 : (w.alloc (.cells #[.int .i64 r, .int .i64 c, .int .i64 tr, .int .i64 tc] 41)).cell? ⟨g, 0, none⟩ = some v := (z0q (z4q hg _) 0).trans rfl
 cases ok
 ·have HB := Lib.hid hB; have HR := Lib.hid hR; have HG := Lib.hid hg; clear hB hR hg
  go_enter Try.func19, Try.ntmps19
  go_wp2_with fail
  go_end0
  refine ⟨rfl, v, z4q HG.out _, by simpa using Kd.R_alloc HR.out _, z7q HB.out _, fun k cs t fr _ _ hk => z4q hk _⟩
 ·have hx0 := blk_new w (.cells #[.int .i64 r, .int .i64 c, .int .i64 tr, .int .i64 tc] 41)
  have y0 := z0q hx0 0; have y1 := z0q hx0 1; have y2 := z0q hx0 2; have y3 := z0q hx0 3
  simp only [List.getElem?_toArray, List.getElem?_cons_zero, List.getElem?_cons_succ] at y0 y1 y2 y3
  have HB := Lib.hid hB; have HR := Lib.hid hR; have HG := Lib.hid hg; have HBW := Lib.hid hbw; have hx1 := hx0; clear hB hR hg hx0 hbw
  generalize hW1 : w.alloc (.cells #[.int .i64 r, .int .i64 c, .int .i64 tr, .int .i64 tc] 41) = W1 at *
  have HR1 := Lib.hid (Kd.R_below HR.out HBW.out)
  have HG1 := Lib.hid (z2q HG.out HBW.out)
  have HX1 := Lib.hid hx1; clear hx1
  go_enter Try.func19, Try.ntmps19
  go_wp2_with fail
  have d0 : W1.drew.cell? ⟨g, 0, none⟩ = some v := hc0
  have d1 := woCellDrew y0; have d2 := woCellDrew y1; have d3 := woCellDrew y2; have d4 := woCellDrew y3
  go_region_law (first
     | (refine goes_ (N := some 8) Try.func18 (by kernel_rfl) rfl #[.agg #[.int .i64 r, .int .i64 c, .int .i64 tr, .int .i64 tc]] (by rfl) rfl rfl (by (try simp only [map_toArray, map_cons, map_nil]); first | done | rfl) ?_; (with_reducible refine (impl_block_area.calls r c tr tc r c false false tr tc false false _ rfl).mono ?_); rintro e w5 ⟨rfl, hb⟩; refine ⟨_, rfl, ?_⟩; have HB5 : Hid (Below W1.heap.size W1 w5) := Lib.hid (show Below W1.heap.size W1 w5 from z8q (below_drew (Below.refl W1.heap.size W1)) hb); have c0 := pw_cell_below hb d0; have c1 := pw_cell_below (z7q (Below.refl w5.heap.size w5) (.cells #[.int .i64 r, .int .i64 c, .bool false, .bool false, .int .i64 tr, .int .i64 tc, .bool false, .bool false] 26)) c0)
     | (refine Kd.R_append_step k26 (w0 := w0) w0.heap.size (by rfl) (.tmp 6) (.tmp 9) 31 26 (.agg #[(.int .i64 0), (.int .i64 0), (.bool false), (.bool false), (.int .i64 0), (.int .i64 0), (.bool false), (.bool false)]) 48 rfl Try.underlying31 info26 rfl (by decide) (by omega) v xs (areaV r c tr tc) [.int .i64 r, .int .i64 c, .bool false, .bool false, .int .i64 tr, .int .i64 tc, .bool false, .bool false] (fun _ => True) (fun _ => False) rfl rfl (k26_mkM _ _ _ (areaV r c tr tc)) (fun _ hk => hk.elim) (fun _ _ => trivial) (Kd.R_below HR1.out HB5.out) (z8q (z8q HB.out HBW.out) HB5.out) (z8q (z8q HB.out HBW.out) HB5.out).size (by omega) ?_; intro v1 w1 hO1 hb1 hg1 hat1; obtain ⟨A1, c1, rfl⟩ := Kd.R_slice hO1; obtain ⟨HGa, HXa⟩ := add_after HB5.out HR1.out HG1.out HX1.out hg1; have HGb := Lib.hid HGa; have HO1 := Lib.hid hO1; have HW1 : Hid (WoK w (w1.setCell ⟨g, 0, none⟩ (.slice A1 (xs ++ [areaV r c tr tc]).length c1)) g) := Lib.hid (add_wok HBW.out HB5.out HR1.out hg1); have HD1 := Lib.hid hb1; clear hO1 hb1 hg1 hat1; have q0 : w1.cell? ⟨g, 0, none⟩ = some v := (z0q HGa 0).trans rfl; have p0 := z0q HXa 0; have p1 := z0q HXa 1; have p2 := z0q HXa 2; have p3 := z0q HXa 3; simp only [List.getElem?_toArray, List.getElem?_cons_zero, List.getElem?_cons_succ] at p0 p1 p2 p3; have f0 : w1.frozen? ⟨g, 0, none⟩ = false := z1q HGa 0; clear HGa HXa))
  all_goals
   go_end0
   refine ⟨rfl, _, z6q HGb.out 0 _ rfl, ?_, z3q HD1.out hgb, by simpa using HW1.out⟩
   have := Kd.R_set HO1.out HGb.out (by decide) 0 (Value.slice A1 (xs ++ [areaV r c tr tc]).length c1)
   simpa using this

theorem blockOf_is (r c tr tc : Int) (b : Bool) (hb : decide (r ≤ tr ∧ c ≤ tc) = b) : impl_blockOf.f r c tr tc = some (r, c, tr, tc, b) := by
 unfold impl_blockOf.f
 subst hb
 by_cases h : r ≤ tr
 ·rw [if_pos h]; simp [h]
 ·rw [if_neg h]; simp [h]

theorem pieceV_is (r c tr tc : Int) (b : Bool) (hb : decide (r ≤ tr ∧ c ≤ tc) = b) : (if b = true then [areaV r c tr tc] else []) = pieceV r c tr tc := by
 subst hb; unfold pieceV; simp

theorem pieceV_len (xs : List S26) (r c tr tc : Int) (n : Nat) (h : xs.length ≤ n) : (xs ++ pieceV r c tr tc).length ≤ n + 1 := by
 unfold pieceV; rw [List.length_append]; split <;> simp <;> omega

theorem WoK.trans {w w1 w2 : World} {g : Nat} (h : WoK w w1 g) (k : WoK w1 w2 g) : WoK w w2 g := fun b cs t fr ht hb hc => k b cs t fr ht hb (h b cs t fr ht hb hc)

set_option maxHeartbeats 8000000 in
set_option maxRecDepth 100000 in
theorem Without_no (a0_0 : Int) (a0_1 : Int) (a0_2 : Bool) (a0_3 : Bool) (a0_4 : Int) (a0_5 : Int) (a0_6 : Bool) (a0_7 : Bool) (a1_0 : Int) (a1_1 : Int) (a1_2 : Bool) (a1_3 : Bool) (a1_4 : Int) (a1_5 : Int) (a1_6 : Bool) (a1_7 : Bool) (m0 m1 : Int) (m2 m3 : Bool) (m4 m5 : Int) (m6 m7 : Bool) (w : World) (hga : impl_GoodArea.f a0_0 a0_1 a0_2 a0_3 a0_4 a0_5 a0_6 a0_7 = some true) (hgb : impl_GoodArea.f a1_0 a1_1 a1_2 a1_3 a1_4 a1_5 a1_6 a1_7 = some true) (hm : impl_Meet.f 9 a0_0 a0_1 a0_2 a0_3 a0_4 a0_5 a0_6 a0_7 a1_0 a1_1 a1_2 a1_3 a1_4 a1_5 a1_6 a1_7 = some (m0, m1, m2, m3, m4, m5, m6, m7, false))  :
  Calls Try.prog 6 #[.agg #[.int .i64 a0_0, .int .i64 a0_1, .bool a0_2, .bool a0_3, .int .i64 a0_4, .int .i64 a0_5, .bool a0_6, .bool a0_7], .agg #[.int .i64 a1_0, .int .i64 a1_1, .bool a1_2, .bool a1_3, .int .i64 a1_4, .int .i64 a1_5, .bool a1_6, .bool a1_7]] w fun e w' => ∃ v, e = .returned v ∧ Kd.R k26 26 w' w.heap.size (fun _ => True) v [areaV (mn a0_0 a0_4) (mn a0_1 a0_5) (mx a0_0 a0_4) (mx a0_1 a0_5)] ∧ Below w.heap.size w w' := by
 obtain ⟨xr, hxr⟩ : ∃ x, mn a0_0 a0_4 = x := ⟨_, rfl⟩; obtain ⟨xc, hxc⟩ : ∃ x, mn a0_1 a0_5 = x := ⟨_, rfl⟩; obtain ⟨xt, hxt⟩ : ∃ x, mx a0_0 a0_4 = x := ⟨_, rfl⟩; obtain ⟨xu, hxu⟩ : ∃ x, mx a0_1 a0_5 = x := ⟨_, rfl⟩
 obtain ⟨yr, hyr⟩ : ∃ x, mn a1_0 a1_4 = x := ⟨_, rfl⟩; obtain ⟨yc, hyc⟩ : ∃ x, mn a1_1 a1_5 = x := ⟨_, rfl⟩; obtain ⟨yt, hyt⟩ : ∃ x, mx a1_0 a1_4 = x := ⟨_, rfl⟩; obtain ⟨yu, hyu⟩ : ∃ x, mx a1_1 a1_5 = x := ⟨_, rfl⟩
 have hbx : impl_Area_block.f a0_0 a0_1 a0_2 a0_3 a0_4 a0_5 a0_6 a0_7 = some (xr, xc, xt, xu) := by unfold impl_Area_block.f; rw [hxr, hxc, hxt, hxu]
 have hby : impl_Area_block.f a1_0 a1_1 a1_2 a1_3 a1_4 a1_5 a1_6 a1_7 = some (yr, yc, yt, yu) := by unfold impl_Area_block.f; rw [hyr, hyc, hyt, hyu]
 rw [hxr, hxc, hxt, hxu]; clear hxr hxc hxt hxu hyr hyc hyt hyu
 have HGA := Lib.hid hga; have HGB := Lib.hid hgb; have HM := Lib.hid hm; have HBX := Lib.hid hbx; have HBY := Lib.hid hby; clear hga hgb hm hbx hby
 have hb0 : Below w.heap.size w ((w.alloc (.cells #[.int .i64 a0_0, .int .i64 a0_1, .bool a0_2, .bool a0_3, .int .i64 a0_4, .int .i64 a0_5, .bool a0_6, .bool a0_7] 26)).alloc (.cells #[.int .i64 a1_0, .int .i64 a1_1, .bool a1_2, .bool a1_3, .int .i64 a1_4, .int .i64 a1_5, .bool a1_6, .bool a1_7] 26)) := z7q (z7q (Below.refl _ _) _) _
 have h2_ := z4q (blk_new w (.cells #[.int .i64 a0_0, .int .i64 a0_1, .bool a0_2, .bool a0_3, .int .i64 a0_4, .int .i64 a0_5, .bool a0_6, .bool a0_7] 26)) (.cells #[.int .i64 a1_0, .int .i64 a1_1, .bool a1_2, .bool a1_3, .int .i64 a1_4, .int .i64 a1_5, .bool a1_6, .bool a1_7] 26)
 have h3_ := blk_new (w.alloc (.cells #[.int .i64 a0_0, .int .i64 a0_1, .bool a0_2, .bool a0_3, .int .i64 a0_4, .int .i64 a0_5, .bool a0_6, .bool a0_7] 26)) (.cells #[.int .i64 a1_0, .int .i64 a1_1, .bool a1_2, .bool a1_3, .int .i64 a1_4, .int .i64 a1_5, .bool a1_6, .bool a1_7] 26)
 rw [show (w.alloc (.cells #[.int .i64 a0_0, .int .i64 a0_1, .bool a0_2, .bool a0_3, .int .i64 a0_4, .int .i64 a0_5, .bool a0_6, .bool a0_7] 26)).heap.size = w.heap.size + 1 from Array.size_push _] at h3_
 have y2_0 := z0q h2_ 0
 have y2_1 := z0q h2_ 1
 have y2_2 := z0q h2_ 2
 have y2_3 := z0q h2_ 3
 have y2_4 := z0q h2_ 4
 have y2_5 := z0q h2_ 5
 have y2_6 := z0q h2_ 6
 have y2_7 := z0q h2_ 7
 simp only [List.getElem?_toArray, List.getElem?_cons_zero, List.getElem?_cons_succ] at y2_0 y2_1 y2_2 y2_3 y2_4 y2_5 y2_6 y2_7
 have lt2 := z14q h2_
 have K2 := Lib.hid h2_; clear h2_
 have y3_0 := z0q h3_ 0
 have y3_1 := z0q h3_ 1
 have y3_2 := z0q h3_ 2
 have y3_3 := z0q h3_ 3
 have y3_4 := z0q h3_ 4
 have y3_5 := z0q h3_ 5
 have y3_6 := z0q h3_ 6
 have y3_7 := z0q h3_ 7
 simp only [List.getElem?_toArray, List.getElem?_cons_zero, List.getElem?_cons_succ] at y3_0 y3_1 y3_2 y3_3 y3_4 y3_5 y3_6 y3_7
 have lt3 := z14q h3_
 have K3 := Lib.hid h3_; clear h3_
 have HB := Lib.hid hb0; clear hb0
 go_enter Try.func6, Try.ntmps6
 go_wp2_with fail
 refine (impl_GoodArea.calls a0_0 a0_1 a0_2 a0_3 a0_4 a0_5 a0_6 a0_7 true _ HGA.out).mono ?_; rintro e w1 ⟨rfl, hd⟩
 have h2_ := z2q K2.out hd
 have h3_ := z2q K3.out hd
 have HBn := Lib.hid (z8q HB.out hd); clear hd HB; have HB := HBn; clear HBn
 clear lt2 K2 y2_0 y2_1 y2_2 y2_3 y2_4 y2_5 y2_6 y2_7 lt3 K3 y3_0 y3_1 y3_2 y3_3 y3_4 y3_5 y3_6 y3_7
 have lt2 := z14q h2_
 have y2_0 := z0q h2_ 0
 have y2_1 := z0q h2_ 1
 have y2_2 := z0q h2_ 2
 have y2_3 := z0q h2_ 3
 have y2_4 := z0q h2_ 4
 have y2_5 := z0q h2_ 5
 have y2_6 := z0q h2_ 6
 have y2_7 := z0q h2_ 7
 simp only [List.getElem?_toArray, List.getElem?_cons_zero, List.getElem?_cons_succ] at y2_0 y2_1 y2_2 y2_3 y2_4 y2_5 y2_6 y2_7
 have K2 := Lib.hid h2_; clear h2_
 have lt3 := z14q h3_
 have y3_0 := z0q h3_ 0
 have y3_1 := z0q h3_ 1
 have y3_2 := z0q h3_ 2
 have y3_3 := z0q h3_ 3
 have y3_4 := z0q h3_ 4
 have y3_5 := z0q h3_ 5
 have y3_6 := z0q h3_ 6
 have y3_7 := z0q h3_ 7
 simp only [List.getElem?_toArray, List.getElem?_cons_zero, List.getElem?_cons_succ] at y3_0 y3_1 y3_2 y3_3 y3_4 y3_5 y3_6 y3_7
 have K3 := Lib.hid h3_; clear h3_
 go_wp2_with fail
 refine (impl_GoodArea.calls a1_0 a1_1 a1_2 a1_3 a1_4 a1_5 a1_6 a1_7 true _ HGB.out).mono ?_; rintro e w2 ⟨rfl, hd⟩
 have h2_ := z2q K2.out hd
 have h3_ := z2q K3.out hd
 have HBn := Lib.hid (z8q HB.out hd); clear hd HB; have HB := HBn; clear HBn
 clear lt2 K2 y2_0 y2_1 y2_2 y2_3 y2_4 y2_5 y2_6 y2_7 lt3 K3 y3_0 y3_1 y3_2 y3_3 y3_4 y3_5 y3_6 y3_7
 have lt2 := z14q h2_
 have y2_0 := z0q h2_ 0
 have y2_1 := z0q h2_ 1
 have y2_2 := z0q h2_ 2
 have y2_3 := z0q h2_ 3
 have y2_4 := z0q h2_ 4
 have y2_5 := z0q h2_ 5
 have y2_6 := z0q h2_ 6
 have y2_7 := z0q h2_ 7
 simp only [List.getElem?_toArray, List.getElem?_cons_zero, List.getElem?_cons_succ] at y2_0 y2_1 y2_2 y2_3 y2_4 y2_5 y2_6 y2_7
 have K2 := Lib.hid h2_; clear h2_
 have lt3 := z14q h3_
 have y3_0 := z0q h3_ 0
 have y3_1 := z0q h3_ 1
 have y3_2 := z0q h3_ 2
 have y3_3 := z0q h3_ 3
 have y3_4 := z0q h3_ 4
 have y3_5 := z0q h3_ 5
 have y3_6 := z0q h3_ 6
 have y3_7 := z0q h3_ 7
 simp only [List.getElem?_toArray, List.getElem?_cons_zero, List.getElem?_cons_succ] at y3_0 y3_1 y3_2 y3_3 y3_4 y3_5 y3_6 y3_7
 have K3 := Lib.hid h3_; clear h3_
 go_wp2_with fail
 refine (impl_Area_block.calls a0_0 a0_1 a0_2 a0_3 a0_4 a0_5 a0_6 a0_7 xr xc xt xu _ HBX.out).mono ?_; rintro e w3 ⟨rfl, hd⟩
 have h2_ := z2q K2.out hd
 have h3_ := z2q K3.out hd
 have HBn := Lib.hid (z8q HB.out hd); clear hd HB; have HB := HBn; clear HBn
 clear lt2 K2 y2_0 y2_1 y2_2 y2_3 y2_4 y2_5 y2_6 y2_7 lt3 K3 y3_0 y3_1 y3_2 y3_3 y3_4 y3_5 y3_6 y3_7
 have lt2 := z14q h2_
 have y2_0 := z0q h2_ 0
 have y2_1 := z0q h2_ 1
 have y2_2 := z0q h2_ 2
 have y2_3 := z0q h2_ 3
 have y2_4 := z0q h2_ 4
 have y2_5 := z0q h2_ 5
 have y2_6 := z0q h2_ 6
 have y2_7 := z0q h2_ 7
 simp only [List.getElem?_toArray, List.getElem?_cons_zero, List.getElem?_cons_succ] at y2_0 y2_1 y2_2 y2_3 y2_4 y2_5 y2_6 y2_7
 have K2 := Lib.hid h2_; clear h2_
 have lt3 := z14q h3_
 have y3_0 := z0q h3_ 0
 have y3_1 := z0q h3_ 1
 have y3_2 := z0q h3_ 2
 have y3_3 := z0q h3_ 3
 have y3_4 := z0q h3_ 4
 have y3_5 := z0q h3_ 5
 have y3_6 := z0q h3_ 6
 have y3_7 := z0q h3_ 7
 simp only [List.getElem?_toArray, List.getElem?_cons_zero, List.getElem?_cons_succ] at y3_0 y3_1 y3_2 y3_3 y3_4 y3_5 y3_6 y3_7
 have K3 := Lib.hid h3_; clear h3_
 have g2_ := z4q K2.out (.cells #[.int .i64 xr, .int .i64 xc, .int .i64 xt, .int .i64 xu] 41)
 have w2_0 := z0q g2_ 0
 have w2_1 := z0q g2_ 1
 have w2_2 := z0q g2_ 2
 have w2_3 := z0q g2_ 3
 have w2_4 := z0q g2_ 4
 have w2_5 := z0q g2_ 5
 have w2_6 := z0q g2_ 6
 have w2_7 := z0q g2_ 7
 simp only [List.getElem?_toArray, List.getElem?_cons_zero, List.getElem?_cons_succ] at w2_0 w2_1 w2_2 w2_3 w2_4 w2_5 w2_6 w2_7
 clear g2_
 have g3_ := z4q K3.out (.cells #[.int .i64 xr, .int .i64 xc, .int .i64 xt, .int .i64 xu] 41)
 have w3_0 := z0q g3_ 0
 have w3_1 := z0q g3_ 1
 have w3_2 := z0q g3_ 2
 have w3_3 := z0q g3_ 3
 have w3_4 := z0q g3_ 4
 have w3_5 := z0q g3_ 5
 have w3_6 := z0q g3_ 6
 have w3_7 := z0q g3_ 7
 simp only [List.getElem?_toArray, List.getElem?_cons_zero, List.getElem?_cons_succ] at w3_0 w3_1 w3_2 w3_3 w3_4 w3_5 w3_6 w3_7
 clear g3_
 go_wp2_with fail
 refine (impl_Area_block.calls a1_0 a1_1 a1_2 a1_3 a1_4 a1_5 a1_6 a1_7 yr yc yt yu _ HBY.out).mono ?_; rintro e w4 ⟨rfl, hd⟩
 have h2_ := z2q (z4q K2.out (.cells #[.int .i64 xr, .int .i64 xc, .int .i64 xt, .int .i64 xu] 41)) hd
 have h3_ := z2q (z4q K3.out (.cells #[.int .i64 xr, .int .i64 xc, .int .i64 xt, .int .i64 xu] 41)) hd
 have h5_ := z2q (blk_new w3 (.cells #[.int .i64 xr, .int .i64 xc, .int .i64 xt, .int .i64 xu] 41)) hd
 have HBn := Lib.hid (z8q (z7q HB.out _) hd); clear hd HB; have HB := HBn; clear HBn
 clear lt2 K2 y2_0 y2_1 y2_2 y2_3 y2_4 y2_5 y2_6 y2_7 lt3 K3 y3_0 y3_1 y3_2 y3_3 y3_4 y3_5 y3_6 y3_7 w2_0 w2_1 w2_2 w2_3 w2_4 w2_5 w2_6 w2_7 w3_0 w3_1 w3_2 w3_3 w3_4 w3_5 w3_6 w3_7
 have lt2 := z14q h2_
 have y2_0 := z0q h2_ 0
 have y2_1 := z0q h2_ 1
 have y2_2 := z0q h2_ 2
 have y2_3 := z0q h2_ 3
 have y2_4 := z0q h2_ 4
 have y2_5 := z0q h2_ 5
 have y2_6 := z0q h2_ 6
 have y2_7 := z0q h2_ 7
 simp only [List.getElem?_toArray, List.getElem?_cons_zero, List.getElem?_cons_succ] at y2_0 y2_1 y2_2 y2_3 y2_4 y2_5 y2_6 y2_7
 have K2 := Lib.hid h2_; clear h2_
 have lt3 := z14q h3_
 have y3_0 := z0q h3_ 0
 have y3_1 := z0q h3_ 1
 have y3_2 := z0q h3_ 2
 have y3_3 := z0q h3_ 3
 have y3_4 := z0q h3_ 4
 have y3_5 := z0q h3_ 5
 have y3_6 := z0q h3_ 6
 have y3_7 := z0q h3_ 7
 simp only [List.getElem?_toArray, List.getElem?_cons_zero, List.getElem?_cons_succ] at y3_0 y3_1 y3_2 y3_3 y3_4 y3_5 y3_6 y3_7
 have K3 := Lib.hid h3_; clear h3_
 have lt5 := z14q h5_
 have y5_0 := z0q h5_ 0
 have y5_1 := z0q h5_ 1
 have y5_2 := z0q h5_ 2
 have y5_3 := z0q h5_ 3
 simp only [List.getElem?_toArray, List.getElem?_cons_zero, List.getElem?_cons_succ] at y5_0 y5_1 y5_2 y5_3
 have K5 := Lib.hid h5_; clear h5_
 have g2_ := z4q K2.out (.cells #[.int .i64 yr, .int .i64 yc, .int .i64 yt, .int .i64 yu] 41)
 have w2_0 := z0q g2_ 0
 have w2_1 := z0q g2_ 1
 have w2_2 := z0q g2_ 2
 have w2_3 := z0q g2_ 3
 have w2_4 := z0q g2_ 4
 have w2_5 := z0q g2_ 5
 have w2_6 := z0q g2_ 6
 have w2_7 := z0q g2_ 7
 simp only [List.getElem?_toArray, List.getElem?_cons_zero, List.getElem?_cons_succ] at w2_0 w2_1 w2_2 w2_3 w2_4 w2_5 w2_6 w2_7
 clear g2_
 have g3_ := z4q K3.out (.cells #[.int .i64 yr, .int .i64 yc, .int .i64 yt, .int .i64 yu] 41)
 have w3_0 := z0q g3_ 0
 have w3_1 := z0q g3_ 1
 have w3_2 := z0q g3_ 2
 have w3_3 := z0q g3_ 3
 have w3_4 := z0q g3_ 4
 have w3_5 := z0q g3_ 5
 have w3_6 := z0q g3_ 6
 have w3_7 := z0q g3_ 7
 simp only [List.getElem?_toArray, List.getElem?_cons_zero, List.getElem?_cons_succ] at w3_0 w3_1 w3_2 w3_3 w3_4 w3_5 w3_6 w3_7
 clear g3_
 have g5_ := z4q K5.out (.cells #[.int .i64 yr, .int .i64 yc, .int .i64 yt, .int .i64 yu] 41)
 clear g5_
 go_wp2_with fail
 refine (impl_Meet.calls 9 a0_0 a0_1 a0_2 a0_3 a0_4 a0_5 a0_6 a0_7 a1_0 a1_1 a1_2 a1_3 a1_4 a1_5 a1_6 a1_7 m0 m1 m2 m3 m4 m5 m6 m7 false _ HM.out).mono ?_; rintro e w5 ⟨rfl, hd⟩
 have h5_ := z2q (z4q K5.out (.cells #[.int .i64 yr, .int .i64 yc, .int .i64 yt, .int .i64 yu] 41)) hd
 have h6_ := z2q (blk_new w4 (.cells #[.int .i64 yr, .int .i64 yc, .int .i64 yt, .int .i64 yu] 41)) hd
 have HBn := Lib.hid (z8q (z7q HB.out _) hd); clear hd HB; have HB := HBn; clear HBn
 clear lt5 K5 y5_0 y5_1 y5_2 y5_3 lt2 K2 y2_0 y2_1 y2_2 y2_3 y2_4 y2_5 y2_6 y2_7 lt3 K3 y3_0 y3_1 y3_2 y3_3 y3_4 y3_5 y3_6 y3_7 w2_0 w2_1 w2_2 w2_3 w2_4 w2_5 w2_6 w2_7 w3_0 w3_1 w3_2 w3_3 w3_4 w3_5 w3_6 w3_7
 have lt5 := z14q h5_
 have y5_0 := z0q h5_ 0
 have y5_1 := z0q h5_ 1
 have y5_2 := z0q h5_ 2
 have y5_3 := z0q h5_ 3
 simp only [List.getElem?_toArray, List.getElem?_cons_zero, List.getElem?_cons_succ] at y5_0 y5_1 y5_2 y5_3
 have K5 := Lib.hid h5_; clear h5_
 have lt6 := z14q h6_
 have y6_0 := z0q h6_ 0
 have y6_1 := z0q h6_ 1
 have y6_2 := z0q h6_ 2
 have y6_3 := z0q h6_ 3
 simp only [List.getElem?_toArray, List.getElem?_cons_zero, List.getElem?_cons_succ] at y6_0 y6_1 y6_2 y6_3
 have K6 := Lib.hid h6_; clear h6_
 have g5_ := z4q K5.out (.cells #[.int .i64 m0, .int .i64 m1, .bool m2, .bool m3, .int .i64 m4, .int .i64 m5, .bool m6, .bool m7] 26)
 have w5_0 := z0q g5_ 0
 have w5_1 := z0q g5_ 1
 have w5_2 := z0q g5_ 2
 have w5_3 := z0q g5_ 3
 simp only [List.getElem?_toArray, List.getElem?_cons_zero, List.getElem?_cons_succ] at w5_0 w5_1 w5_2 w5_3
 clear g5_
 have g6_ := z4q K6.out (.cells #[.int .i64 m0, .int .i64 m1, .bool m2, .bool m3, .int .i64 m4, .int .i64 m5, .bool m6, .bool m7] 26)
 have w6_0 := z0q g6_ 0
 have w6_1 := z0q g6_ 1
 have w6_2 := z0q g6_ 2
 have w6_3 := z0q g6_ 3
 simp only [List.getElem?_toArray, List.getElem?_cons_zero, List.getElem?_cons_succ] at w6_0 w6_1 w6_2 w6_3
 clear g6_
 go_wp2_with fail
 refine (impl_block_area.calls xr xc xt xu xr xc false false xt xu false false _ rfl).mono ?_; rintro e w6 ⟨rfl, hd⟩
 have HB6 := Lib.hid (z8q (z7q HB.out _) hd); clear hd HB
 go_wp2_with ((with_reducible refine z22q (N := 35) rfl ?_); refine Kd.R_lit k26 _ 26 ?hg (N := 35) ?hd (xs := ([areaV xr xc xt xu] : List S26)) (inner := [.int .i64 xr, .int .i64 xc, .bool false, .bool false, .int .i64 xt, .int .i64 xu, .bool false, .bool false]) (ok := fun _ => True) (okp := fun _ => True) ?hr ?hp (fun _ hk => hk) trivial (Below.refl _ _) (Nat.le_refl _) (by simp) ?_; (case hd => rfl); (case hg => rfl); (case hr => first | (go_simp; done) | (go_simp; rfl)); (case hp => exact (Reps.c8 (show Kd.M k26 _ _ _ (areaV xr xc xt xu) [.int .i64 xr, .int .i64 xc, .bool false, .bool false, .int .i64 xt, .int .i64 xu, .bool false, .bool false] from k26_mkM _ _ _ (areaV xr xc xt xu)) (Reps.none _ _))); intro v7 w7 ho hb hg_ hn_; have HO7 := Lib.hid (Kd.R_lower ho HB6.out.size); have HB7 := Lib.hid (z8q HB6.out hb); clear ho hb hg_ hn_)
 go_ret
 exact ⟨_, rfl, HO7.out, HB7.out⟩

set_option maxHeartbeats 8000000 in
set_option maxRecDepth 100000 in
theorem Without_ok (a0_0 : Int) (a0_1 : Int) (a0_2 : Bool) (a0_3 : Bool) (a0_4 : Int) (a0_5 : Int) (a0_6 : Bool) (a0_7 : Bool) (a1_0 : Int) (a1_1 : Int) (a1_2 : Bool) (a1_3 : Bool) (a1_4 : Int) (a1_5 : Int) (a1_6 : Bool) (a1_7 : Bool) (m0 m1 : Int) (m2 m3 : Bool) (m4 m5 : Int) (m6 m7 : Bool) (w : World) (hga : impl_GoodArea.f a0_0 a0_1 a0_2 a0_3 a0_4 a0_5 a0_6 a0_7 = some true) (hgb : impl_GoodArea.f a1_0 a1_1 a1_2 a1_3 a1_4 a1_5 a1_6 a1_7 = some true) (hm : impl_Meet.f 9 a0_0 a0_1 a0_2 a0_3 a0_4 a0_5 a0_6 a0_7 a1_0 a1_1 a1_2 a1_3 a1_4 a1_5 a1_6 a1_7 = some (m0, m1, m2, m3, m4, m5, m6, m7, true))  :
  Calls Try.prog 6 #[.agg #[.int .i64 a0_0, .int .i64 a0_1, .bool a0_2, .bool a0_3, .int .i64 a0_4, .int .i64 a0_5, .bool a0_6, .bool a0_7], .agg #[.int .i64 a1_0, .int .i64 a1_1, .bool a1_2, .bool a1_3, .int .i64 a1_4, .int .i64 a1_5, .bool a1_6, .bool a1_7]] w fun e w' => ∃ v, e = .returned v ∧ Kd.R k26 26 w' w.heap.size (fun _ => True) v (piecesV (mn a0_0 a0_4) (mn a0_1 a0_5) (mx a0_0 a0_4) (mx a0_1 a0_5) (mn a1_0 a1_4) (mn a1_1 a1_5) (mx a1_0 a1_4) (mx a1_1 a1_5)) ∧ Below w.heap.size w w' := by
 obtain ⟨xr, hxr⟩ : ∃ x, mn a0_0 a0_4 = x := ⟨_, rfl⟩; obtain ⟨xc, hxc⟩ : ∃ x, mn a0_1 a0_5 = x := ⟨_, rfl⟩; obtain ⟨xt, hxt⟩ : ∃ x, mx a0_0 a0_4 = x := ⟨_, rfl⟩; obtain ⟨xu, hxu⟩ : ∃ x, mx a0_1 a0_5 = x := ⟨_, rfl⟩
 obtain ⟨yr, hyr⟩ : ∃ x, mn a1_0 a1_4 = x := ⟨_, rfl⟩; obtain ⟨yc, hyc⟩ : ∃ x, mn a1_1 a1_5 = x := ⟨_, rfl⟩; obtain ⟨yt, hyt⟩ : ∃ x, mx a1_0 a1_4 = x := ⟨_, rfl⟩; obtain ⟨yu, hyu⟩ : ∃ x, mx a1_1 a1_5 = x := ⟨_, rfl⟩
 have hbx : impl_Area_block.f a0_0 a0_1 a0_2 a0_3 a0_4 a0_5 a0_6 a0_7 = some (xr, xc, xt, xu) := by unfold impl_Area_block.f; rw [hxr, hxc, hxt, hxu]
 have hby : impl_Area_block.f a1_0 a1_1 a1_2 a1_3 a1_4 a1_5 a1_6 a1_7 = some (yr, yc, yt, yu) := by unfold impl_Area_block.f; rw [hyr, hyc, hyt, hyu]
 rw [hxr, hxc, hxt, hxu, hyr, hyc, hyt, hyu]; clear hxr hxc hxt hxu hyr hyc hyt hyu
 obtain ⟨p1, hp1⟩ : ∃ p, mn xt (wrap64 (yr - 1)) = p := ⟨_, rfl⟩; obtain ⟨p2, hp2⟩ : ∃ p, mx xr (wrap64 (yt + 1)) = p := ⟨_, rfl⟩; obtain ⟨pt, hpt⟩ : ∃ p, mx xr yr = p := ⟨_, rfl⟩; obtain ⟨pl, hpl⟩ : ∃ p, mn xt yt = p := ⟨_, rfl⟩; obtain ⟨p3, hp3⟩ : ∃ p, mn xu (wrap64 (yc - 1)) = p := ⟨_, rfl⟩; obtain ⟨p4, hp4⟩ : ∃ p, mx xc (wrap64 (yu + 1)) = p := ⟨_, rfl⟩
 have hpv : piecesV xr xc xt xu yr yc yt yu = pieceV xr xc p1 xu ++ pieceV p2 xc xt xu ++ pieceV pt xc pl p3 ++ pieceV pt p4 pl xu := by unfold piecesV; rw [hp1, hp2, hpt, hpl, hp3, hp4]
 rw [hpv]; clear hpv
 unfold mn at hp1 hpl hp3; unfold mx at hp2 hpt hp4
 have HGA := Lib.hid hga; have HGB := Lib.hid hgb; have HM := Lib.hid hm; have HBX := Lib.hid hbx; have HBY := Lib.hid hby; clear hga hgb hm hbx hby
 have hb0 : Below w.heap.size w ((w.alloc (.cells #[.int .i64 a0_0, .int .i64 a0_1, .bool a0_2, .bool a0_3, .int .i64 a0_4, .int .i64 a0_5, .bool a0_6, .bool a0_7] 26)).alloc (.cells #[.int .i64 a1_0, .int .i64 a1_1, .bool a1_2, .bool a1_3, .int .i64 a1_4, .int .i64 a1_5, .bool a1_6, .bool a1_7] 26)) := z7q (z7q (Below.refl _ _) _) _
 have h2_ := z4q (blk_new w (.cells #[.int .i64 a0_0, .int .i64 a0_1, .bool a0_2, .bool a0_3, .int .i64 a0_4, .int .i64 a0_5, .bool a0_6, .bool a0_7] 26)) (.cells #[.int .i64 a1_0, .int .i64 a1_1, .bool a1_2, .bool a1_3, .int .i64 a1_4, .int .i64 a1_5, .bool a1_6, .bool a1_7] 26)
 have h3_ := blk_new (w.alloc (.cells #[.int .i64 a0_0, .int .i64 a0_1, .bool a0_2, .bool a0_3, .int .i64 a0_4, .int .i64 a0_5, .bool a0_6, .bool a0_7] 26)) (.cells #[.int .i64 a1_0, .int .i64 a1_1, .bool a1_2, .bool a1_3, .int .i64 a1_4, .int .i64 a1_5, .bool a1_6, .bool a1_7] 26)
 rw [show (w.alloc (.cells #[.int .i64 a0_0, .int .i64 a0_1, .bool a0_2, .bool a0_3, .int .i64 a0_4, .int .i64 a0_5, .bool a0_6, .bool a0_7] 26)).heap.size = w.heap.size + 1 from Array.size_push _] at h3_
 have y2_0 := z0q h2_ 0
 have y2_1 := z0q h2_ 1
 have y2_2 := z0q h2_ 2
 have y2_3 := z0q h2_ 3
 have y2_4 := z0q h2_ 4
 have y2_5 := z0q h2_ 5
 have y2_6 := z0q h2_ 6
 have y2_7 := z0q h2_ 7
 simp only [List.getElem?_toArray, List.getElem?_cons_zero, List.getElem?_cons_succ] at y2_0 y2_1 y2_2 y2_3 y2_4 y2_5 y2_6 y2_7
 have lt2 := z14q h2_
 have K2 := Lib.hid h2_; clear h2_
 have y3_0 := z0q h3_ 0
 have y3_1 := z0q h3_ 1
 have y3_2 := z0q h3_ 2
 have y3_3 := z0q h3_ 3
 have y3_4 := z0q h3_ 4
 have y3_5 := z0q h3_ 5
 have y3_6 := z0q h3_ 6
 have y3_7 := z0q h3_ 7
 simp only [List.getElem?_toArray, List.getElem?_cons_zero, List.getElem?_cons_succ] at y3_0 y3_1 y3_2 y3_3 y3_4 y3_5 y3_6 y3_7
 have lt3 := z14q h3_
 have K3 := Lib.hid h3_; clear h3_
 have HB := Lib.hid hb0; clear hb0
 go_enter Try.func6, Try.ntmps6
 go_wp2_with fail
 refine (impl_GoodArea.calls a0_0 a0_1 a0_2 a0_3 a0_4 a0_5 a0_6 a0_7 true _ HGA.out).mono ?_; rintro e w1 ⟨rfl, hd⟩
 have h2_ := z2q K2.out hd
 have h3_ := z2q K3.out hd
 have HBn := Lib.hid (z8q HB.out hd); clear hd HB; have HB := HBn; clear HBn
 clear lt2 K2 y2_0 y2_1 y2_2 y2_3 y2_4 y2_5 y2_6 y2_7 lt3 K3 y3_0 y3_1 y3_2 y3_3 y3_4 y3_5 y3_6 y3_7
 have lt2 := z14q h2_
 have y2_0 := z0q h2_ 0
 have y2_1 := z0q h2_ 1
 have y2_2 := z0q h2_ 2
 have y2_3 := z0q h2_ 3
 have y2_4 := z0q h2_ 4
 have y2_5 := z0q h2_ 5
 have y2_6 := z0q h2_ 6
 have y2_7 := z0q h2_ 7
 simp only [List.getElem?_toArray, List.getElem?_cons_zero, List.getElem?_cons_succ] at y2_0 y2_1 y2_2 y2_3 y2_4 y2_5 y2_6 y2_7
 have K2 := Lib.hid h2_; clear h2_
 have lt3 := z14q h3_
 have y3_0 := z0q h3_ 0
 have y3_1 := z0q h3_ 1
 have y3_2 := z0q h3_ 2
 have y3_3 := z0q h3_ 3
 have y3_4 := z0q h3_ 4
 have y3_5 := z0q h3_ 5
 have y3_6 := z0q h3_ 6
 have y3_7 := z0q h3_ 7
 simp only [List.getElem?_toArray, List.getElem?_cons_zero, List.getElem?_cons_succ] at y3_0 y3_1 y3_2 y3_3 y3_4 y3_5 y3_6 y3_7
 have K3 := Lib.hid h3_; clear h3_
 go_wp2_with fail
 refine (impl_GoodArea.calls a1_0 a1_1 a1_2 a1_3 a1_4 a1_5 a1_6 a1_7 true _ HGB.out).mono ?_; rintro e w2 ⟨rfl, hd⟩
 have h2_ := z2q K2.out hd
 have h3_ := z2q K3.out hd
 have HBn := Lib.hid (z8q HB.out hd); clear hd HB; have HB := HBn; clear HBn
 clear lt2 K2 y2_0 y2_1 y2_2 y2_3 y2_4 y2_5 y2_6 y2_7 lt3 K3 y3_0 y3_1 y3_2 y3_3 y3_4 y3_5 y3_6 y3_7
 have lt2 := z14q h2_
 have y2_0 := z0q h2_ 0
 have y2_1 := z0q h2_ 1
 have y2_2 := z0q h2_ 2
 have y2_3 := z0q h2_ 3
 have y2_4 := z0q h2_ 4
 have y2_5 := z0q h2_ 5
 have y2_6 := z0q h2_ 6
 have y2_7 := z0q h2_ 7
 simp only [List.getElem?_toArray, List.getElem?_cons_zero, List.getElem?_cons_succ] at y2_0 y2_1 y2_2 y2_3 y2_4 y2_5 y2_6 y2_7
 have K2 := Lib.hid h2_; clear h2_
 have lt3 := z14q h3_
 have y3_0 := z0q h3_ 0
 have y3_1 := z0q h3_ 1
 have y3_2 := z0q h3_ 2
 have y3_3 := z0q h3_ 3
 have y3_4 := z0q h3_ 4
 have y3_5 := z0q h3_ 5
 have y3_6 := z0q h3_ 6
 have y3_7 := z0q h3_ 7
 simp only [List.getElem?_toArray, List.getElem?_cons_zero, List.getElem?_cons_succ] at y3_0 y3_1 y3_2 y3_3 y3_4 y3_5 y3_6 y3_7
 have K3 := Lib.hid h3_; clear h3_
 go_wp2_with fail
 refine (impl_Area_block.calls a0_0 a0_1 a0_2 a0_3 a0_4 a0_5 a0_6 a0_7 xr xc xt xu _ HBX.out).mono ?_; rintro e w3 ⟨rfl, hd⟩
 have h2_ := z2q K2.out hd
 have h3_ := z2q K3.out hd
 have HBn := Lib.hid (z8q HB.out hd); clear hd HB; have HB := HBn; clear HBn
 clear lt2 K2 y2_0 y2_1 y2_2 y2_3 y2_4 y2_5 y2_6 y2_7 lt3 K3 y3_0 y3_1 y3_2 y3_3 y3_4 y3_5 y3_6 y3_7
 have lt2 := z14q h2_
 have y2_0 := z0q h2_ 0
 have y2_1 := z0q h2_ 1
 have y2_2 := z0q h2_ 2
 have y2_3 := z0q h2_ 3
 have y2_4 := z0q h2_ 4
 have y2_5 := z0q h2_ 5
 have y2_6 := z0q h2_ 6
 have y2_7 := z0q h2_ 7
 simp only [List.getElem?_toArray, List.getElem?_cons_zero, List.getElem?_cons_succ] at y2_0 y2_1 y2_2 y2_3 y2_4 y2_5 y2_6 y2_7
 have K2 := Lib.hid h2_; clear h2_
 have lt3 := z14q h3_
 have y3_0 := z0q h3_ 0
 have y3_1 := z0q h3_ 1
 have y3_2 := z0q h3_ 2
 have y3_3 := z0q h3_ 3
 have y3_4 := z0q h3_ 4
 have y3_5 := z0q h3_ 5
 have y3_6 := z0q h3_ 6
 have y3_7 := z0q h3_ 7
 simp only [List.getElem?_toArray, List.getElem?_cons_zero, List.getElem?_cons_succ] at y3_0 y3_1 y3_2 y3_3 y3_4 y3_5 y3_6 y3_7
 have K3 := Lib.hid h3_; clear h3_
 have g2_ := z4q K2.out (.cells #[.int .i64 xr, .int .i64 xc, .int .i64 xt, .int .i64 xu] 41)
 have w2_0 := z0q g2_ 0
 have w2_1 := z0q g2_ 1
 have w2_2 := z0q g2_ 2
 have w2_3 := z0q g2_ 3
 have w2_4 := z0q g2_ 4
 have w2_5 := z0q g2_ 5
 have w2_6 := z0q g2_ 6
 have w2_7 := z0q g2_ 7
 simp only [List.getElem?_toArray, List.getElem?_cons_zero, List.getElem?_cons_succ] at w2_0 w2_1 w2_2 w2_3 w2_4 w2_5 w2_6 w2_7
 clear g2_
 have g3_ := z4q K3.out (.cells #[.int .i64 xr, .int .i64 xc, .int .i64 xt, .int .i64 xu] 41)
 have w3_0 := z0q g3_ 0
 have w3_1 := z0q g3_ 1
 have w3_2 := z0q g3_ 2
 have w3_3 := z0q g3_ 3
 have w3_4 := z0q g3_ 4
 have w3_5 := z0q g3_ 5
 have w3_6 := z0q g3_ 6
 have w3_7 := z0q g3_ 7
 simp only [List.getElem?_toArray, List.getElem?_cons_zero, List.getElem?_cons_succ] at w3_0 w3_1 w3_2 w3_3 w3_4 w3_5 w3_6 w3_7
 clear g3_
 go_wp2_with fail
 refine (impl_Area_block.calls a1_0 a1_1 a1_2 a1_3 a1_4 a1_5 a1_6 a1_7 yr yc yt yu _ HBY.out).mono ?_; rintro e w4 ⟨rfl, hd⟩
 have h2_ := z2q (z4q K2.out (.cells #[.int .i64 xr, .int .i64 xc, .int .i64 xt, .int .i64 xu] 41)) hd
 have h3_ := z2q (z4q K3.out (.cells #[.int .i64 xr, .int .i64 xc, .int .i64 xt, .int .i64 xu] 41)) hd
 have h5_ := z2q (blk_new w3 (.cells #[.int .i64 xr, .int .i64 xc, .int .i64 xt, .int .i64 xu] 41)) hd
 have HBn := Lib.hid (z8q (z7q HB.out _) hd); clear hd HB; have HB := HBn; clear HBn
 clear lt2 K2 y2_0 y2_1 y2_2 y2_3 y2_4 y2_5 y2_6 y2_7 lt3 K3 y3_0 y3_1 y3_2 y3_3 y3_4 y3_5 y3_6 y3_7 w2_0 w2_1 w2_2 w2_3 w2_4 w2_5 w2_6 w2_7 w3_0 w3_1 w3_2 w3_3 w3_4 w3_5 w3_6 w3_7
 have lt2 := z14q h2_
 have y2_0 := z0q h2_ 0
 have y2_1 := z0q h2_ 1
 have y2_2 := z0q h2_ 2
 have y2_3 := z0q h2_ 3
 have y2_4 := z0q h2_ 4
 have y2_5 := z0q h2_ 5
 have y2_6 := z0q h2_ 6
 have y2_7 := z0q h2_ 7
 simp only [List.getElem?_toArray, List.getElem?_cons_zero, List.getElem?_cons_succ] at y2_0 y2_1 y2_2 y2_3 y2_4 y2_5 y2_6 y2_7
 have K2 := Lib.hid h2_; clear h2_
 have lt3 := z14q h3_
 have y3_0 := z0q h3_ 0
 have y3_1 := z0q h3_ 1
 have y3_2 := z0q h3_ 2
 have y3_3 := z0q h3_ 3
 have y3_4 := z0q h3_ 4
 have y3_5 := z0q h3_ 5
 have y3_6 := z0q h3_ 6
 have y3_7 := z0q h3_ 7
 simp only [List.getElem?_toArray, List.getElem?_cons_zero, List.getElem?_cons_succ] at y3_0 y3_1 y3_2 y3_3 y3_4 y3_5 y3_6 y3_7
 have K3 := Lib.hid h3_; clear h3_
 have lt5 := z14q h5_
 have y5_0 := z0q h5_ 0
 have y5_1 := z0q h5_ 1
 have y5_2 := z0q h5_ 2
 have y5_3 := z0q h5_ 3
 simp only [List.getElem?_toArray, List.getElem?_cons_zero, List.getElem?_cons_succ] at y5_0 y5_1 y5_2 y5_3
 have K5 := Lib.hid h5_; clear h5_
 have g2_ := z4q K2.out (.cells #[.int .i64 yr, .int .i64 yc, .int .i64 yt, .int .i64 yu] 41)
 have w2_0 := z0q g2_ 0
 have w2_1 := z0q g2_ 1
 have w2_2 := z0q g2_ 2
 have w2_3 := z0q g2_ 3
 have w2_4 := z0q g2_ 4
 have w2_5 := z0q g2_ 5
 have w2_6 := z0q g2_ 6
 have w2_7 := z0q g2_ 7
 simp only [List.getElem?_toArray, List.getElem?_cons_zero, List.getElem?_cons_succ] at w2_0 w2_1 w2_2 w2_3 w2_4 w2_5 w2_6 w2_7
 clear g2_
 have g3_ := z4q K3.out (.cells #[.int .i64 yr, .int .i64 yc, .int .i64 yt, .int .i64 yu] 41)
 have w3_0 := z0q g3_ 0
 have w3_1 := z0q g3_ 1
 have w3_2 := z0q g3_ 2
 have w3_3 := z0q g3_ 3
 have w3_4 := z0q g3_ 4
 have w3_5 := z0q g3_ 5
 have w3_6 := z0q g3_ 6
 have w3_7 := z0q g3_ 7
 simp only [List.getElem?_toArray, List.getElem?_cons_zero, List.getElem?_cons_succ] at w3_0 w3_1 w3_2 w3_3 w3_4 w3_5 w3_6 w3_7
 clear g3_
 have g5_ := z4q K5.out (.cells #[.int .i64 yr, .int .i64 yc, .int .i64 yt, .int .i64 yu] 41)
 clear g5_
 go_wp2_with fail
 refine (impl_Meet.calls 9 a0_0 a0_1 a0_2 a0_3 a0_4 a0_5 a0_6 a0_7 a1_0 a1_1 a1_2 a1_3 a1_4 a1_5 a1_6 a1_7 m0 m1 m2 m3 m4 m5 m6 m7 true _ HM.out).mono ?_; rintro e w5 ⟨rfl, hd⟩
 have h5_ := z2q (z4q K5.out (.cells #[.int .i64 yr, .int .i64 yc, .int .i64 yt, .int .i64 yu] 41)) hd
 have h6_ := z2q (blk_new w4 (.cells #[.int .i64 yr, .int .i64 yc, .int .i64 yt, .int .i64 yu] 41)) hd
 have HBn := Lib.hid (z8q (z7q HB.out _) hd); clear hd HB; have HB := HBn; clear HBn
 clear lt5 K5 y5_0 y5_1 y5_2 y5_3 lt2 K2 y2_0 y2_1 y2_2 y2_3 y2_4 y2_5 y2_6 y2_7 lt3 K3 y3_0 y3_1 y3_2 y3_3 y3_4 y3_5 y3_6 y3_7 w2_0 w2_1 w2_2 w2_3 w2_4 w2_5 w2_6 w2_7 w3_0 w3_1 w3_2 w3_3 w3_4 w3_5 w3_6 w3_7
 have lt5 := z14q h5_
 have y5_0 := z0q h5_ 0
 have y5_1 := z0q h5_ 1
 have y5_2 := z0q h5_ 2
 have y5_3 := z0q h5_ 3
 simp only [List.getElem?_toArray, List.getElem?_cons_zero, List.getElem?_cons_succ] at y5_0 y5_1 y5_2 y5_3
 have K5 := Lib.hid h5_; clear h5_
 have lt6 := z14q h6_
 have y6_0 := z0q h6_ 0
 have y6_1 := z0q h6_ 1
 have y6_2 := z0q h6_ 2
 have y6_3 := z0q h6_ 3
 simp only [List.getElem?_toArray, List.getElem?_cons_zero, List.getElem?_cons_succ] at y6_0 y6_1 y6_2 y6_3
 have K6 := Lib.hid h6_; clear h6_
 have g5_ := z4q K5.out (.cells #[.int .i64 m0, .int .i64 m1, .bool m2, .bool m3, .int .i64 m4, .int .i64 m5, .bool m6, .bool m7] 26)
 have w5_0 := z0q g5_ 0
 have w5_1 := z0q g5_ 1
 have w5_2 := z0q g5_ 2
 have w5_3 := z0q g5_ 3
 simp only [List.getElem?_toArray, List.getElem?_cons_zero, List.getElem?_cons_succ] at w5_0 w5_1 w5_2 w5_3
 clear g5_
 have g6_ := z4q K6.out (.cells #[.int .i64 m0, .int .i64 m1, .bool m2, .bool m3, .int .i64 m4, .int .i64 m5, .bool m6, .bool m7] 26)
 have w6_0 := z0q g6_ 0
 have w6_1 := z0q g6_ 1
 have w6_2 := z0q g6_ 2
 have w6_3 := z0q g6_ 3
 simp only [List.getElem?_toArray, List.getElem?_cons_zero, List.getElem?_cons_succ] at w6_0 w6_1 w6_2 w6_3
 clear g6_
 go_wp2_with ((with_reducible refine z22q (N := 36) rfl ?_); refine Kd.R_lit k26 _ 26 ?hg (N := 36) ?hd (xs := ([] : List S26)) (inner := []) (ok := fun _ => True) (okp := fun _ => True) ?hr ?hp (fun _ hk => hk) trivial (Below.refl _ _) (Nat.le_refl _) (by simp) ?_; (case hd => rfl); (case hg => rfl); (case hr => first | (go_simp; done) | (go_simp; rfl)); (case hp => exact (Reps.none _ _)); intro v7 w7 ho hb hg_ hn_; obtain ⟨A7, c7, rfl⟩ := Kd.R_slice ho; have HO := Lib.hid (Kd.R_lower ho (z7q HB.out _).size); have h5_ := z2q (z4q K5.out _) hb; have h6_ := z2q (z4q K6.out _) hb; have HB7 := Lib.hid (z8q (z7q HB.out _) hb); clear ho hb hg_ hn_; have g_ := z4q h5_ (.cells #[.slice A7 0 c7] 31); have w5_0 := z0q g_ 0; have w5_1 := z0q g_ 1; have w5_2 := z0q g_ 2; have w5_3 := z0q g_ 3; simp only [List.getElem?_toArray, List.getElem?_cons_zero, List.getElem?_cons_succ] at w5_0 w5_1 w5_2 w5_3; clear g_; have g_ := z4q h6_ (.cells #[.slice A7 0 c7] 31); have w6_0 := z0q g_ 0; have w6_1 := z0q g_ 1; have w6_2 := z0q g_ 2; have w6_3 := z0q g_ 3; simp only [List.getElem?_toArray, List.getElem?_cons_zero, List.getElem?_cons_succ] at w6_0 w6_1 w6_2 w6_3; clear g_; have K5n := Lib.hid h5_; have K6n := Lib.hid h6_; clear h5_ h6_)
 have hne5 : w3.heap.size ≠ w7.heap.size := Nat.ne_of_lt (z14q K5n.out)
 have hne6 : w4.heap.size ≠ w7.heap.size := Nat.ne_of_lt (z14q K6n.out)
 have hgb : w.heap.size ≤ w7.heap.size := HB7.out.size
 have L5 := Lib.hid (z4q K5n.out (.cells #[.slice A7 0 c7] 31)); have L6 := Lib.hid (z4q K6n.out (.cells #[.slice A7 0 c7] 31)); have LG := Lib.hid (blk_new w7 (.cells #[.slice A7 0 c7] 31))
 have LR : Hid (Kd.R k26 26 (w7.alloc (.cells #[.slice A7 0 c7] 31)) w.heap.size (fun _ => True) (.slice A7 0 c7) []) := Lib.hid (Kd.R_alloc HO.out (.cells #[.slice A7 0 c7] 31)); have LB := Lib.hid (z7q HB7.out (.cells #[.slice A7 0 c7] 31))
 obtain ⟨b0, hb0⟩ : ∃ b : Bool, decide (xr ≤ p1 ∧ xc ≤ xu) = b := ⟨_, rfl⟩
 refine (impl_blockOf.calls xr xc p1 xu xr xc p1 xu b0 _ (blockOf_is _ _ _ _ _ hb0)).mono ?_; rintro e wa0 ⟨rfl, hd⟩
 have M5 := z2q L5.out hd; have M6 := z2q L6.out hd; have MG := z2q LG.out hd; have MR := Kd.R_below LR.out hd; have MB := z8q LB.out hd; clear L5 L6 LG LR LB hd
 have N5 := Lib.hid M5; have N6 := Lib.hid M6; have NG := Lib.hid MG; have NR := Lib.hid MR; have NB := Lib.hid MB; clear M5 M6 MG MR MB
 go_wp2_with fail
 refine (Without_add xr xc p1 xu b0 w7.heap.size _ _ w wa0 NR.out (by simp; done) NB.out NG.out hgb).mono ?_; rintro e wv0 ⟨rfl, v0, hg_, hr_, hb_, hw_⟩
 obtain ⟨A0_, c0_, rfl⟩ := Kd.R_slice hr_
 have h5_ := hw_ _ _ _ _ (by decide) hne5 N5.out; have h6_ := hw_ _ _ _ _ (by decide) hne6 N6.out
 rw [pieceV_is xr xc p1 xu b0 hb0] at hr_ hg_
 have hlen1 : ([] ++ pieceV xr xc p1 xu).length ≤ 1 := pieceV_len _ _ _ _ _ 0 (Nat.le_refl 0)
 clear N5 N6 NG NR NB hw_
 have w5_0 := z0q h5_ 0; have w5_1 := z0q h5_ 1; have w5_2 := z0q h5_ 2; have w5_3 := z0q h5_ 3
 simp only [List.getElem?_toArray, List.getElem?_cons_zero, List.getElem?_cons_succ] at w5_0 w5_1 w5_2 w5_3
 have w6_0 := z0q h6_ 0; have w6_1 := z0q h6_ 1; have w6_2 := z0q h6_ 2; have w6_3 := z0q h6_ 3
 simp only [List.getElem?_toArray, List.getElem?_cons_zero, List.getElem?_cons_succ] at w6_0 w6_1 w6_2 w6_3
 have wg := (z0q hg_ 0).trans rfl
 have L5 := Lib.hid h5_; have L6 := Lib.hid h6_; have LG := Lib.hid hg_; have LR := Lib.hid hr_; have LB := Lib.hid hb_; clear h5_ h6_ hg_ hr_ hb_
 go_wp2_with fail
 obtain ⟨b1, hb1⟩ : ∃ b : Bool, decide (p2 ≤ xt ∧ xc ≤ xu) = b := ⟨_, rfl⟩
 refine (impl_blockOf.calls p2 xc xt xu p2 xc xt xu b1 _ (blockOf_is _ _ _ _ _ hb1)).mono ?_; rintro e wa1 ⟨rfl, hd⟩
 have M5 := z2q L5.out hd; have M6 := z2q L6.out hd; have MG := z2q LG.out hd; have MR := Kd.R_below LR.out hd; have MB := z8q LB.out hd; clear L5 L6 LG LR LB hd
 have N5 := Lib.hid M5; have N6 := Lib.hid M6; have NG := Lib.hid MG; have NR := Lib.hid MR; have NB := Lib.hid MB; clear M5 M6 MG MR MB
 go_wp2_with fail
 refine (Without_add p2 xc xt xu b1 w7.heap.size _ _ w wa1 NR.out (Nat.le_trans hlen1 (by omega)) NB.out NG.out hgb).mono ?_; rintro e wv1 ⟨rfl, v1, hg_, hr_, hb_, hw_⟩
 obtain ⟨A1_, c1_, rfl⟩ := Kd.R_slice hr_
 have h5_ := hw_ _ _ _ _ (by decide) hne5 N5.out; have h6_ := hw_ _ _ _ _ (by decide) hne6 N6.out
 rw [pieceV_is p2 xc xt xu b1 hb1] at hr_ hg_
 have hlen2 : (([] ++ pieceV xr xc p1 xu) ++ pieceV p2 xc xt xu).length ≤ 2 := pieceV_len _ _ _ _ _ 1 hlen1
 clear N5 N6 NG NR NB hw_
 have w5_0 := z0q h5_ 0; have w5_1 := z0q h5_ 1; have w5_2 := z0q h5_ 2; have w5_3 := z0q h5_ 3
 simp only [List.getElem?_toArray, List.getElem?_cons_zero, List.getElem?_cons_succ] at w5_0 w5_1 w5_2 w5_3
 have w6_0 := z0q h6_ 0; have w6_1 := z0q h6_ 1; have w6_2 := z0q h6_ 2; have w6_3 := z0q h6_ 3
 simp only [List.getElem?_toArray, List.getElem?_cons_zero, List.getElem?_cons_succ] at w6_0 w6_1 w6_2 w6_3
 have wg := (z0q hg_ 0).trans rfl
 have L5 := Lib.hid h5_; have L6 := Lib.hid h6_; have LG := Lib.hid hg_; have LR := Lib.hid hr_; have LB := Lib.hid hb_; clear h5_ h6_ hg_ hr_ hb_
 go_wp2_with fail
 obtain ⟨b2, hb2⟩ : ∃ b : Bool, decide (pt ≤ pl ∧ xc ≤ p3) = b := ⟨_, rfl⟩
 refine (impl_blockOf.calls pt xc pl p3 pt xc pl p3 b2 _ (blockOf_is _ _ _ _ _ hb2)).mono ?_; rintro e wa2 ⟨rfl, hd⟩
 have M5 := z2q L5.out hd; have M6 := z2q L6.out hd; have MG := z2q LG.out hd; have MR := Kd.R_below LR.out hd; have MB := z8q LB.out hd; clear L5 L6 LG LR LB hd
 have N5 := Lib.hid M5; have N6 := Lib.hid M6; have NG := Lib.hid MG; have NR := Lib.hid MR; have NB := Lib.hid MB; clear M5 M6 MG MR MB
 go_wp2_with fail
 refine (Without_add pt xc pl p3 b2 w7.heap.size _ _ w wa2 NR.out (Nat.le_trans hlen2 (by omega)) NB.out NG.out hgb).mono ?_; rintro e wv2 ⟨rfl, v2, hg_, hr_, hb_, hw_⟩
 obtain ⟨A2_, c2_, rfl⟩ := Kd.R_slice hr_
 have h5_ := hw_ _ _ _ _ (by decide) hne5 N5.out; have h6_ := hw_ _ _ _ _ (by decide) hne6 N6.out
 rw [pieceV_is pt xc pl p3 b2 hb2] at hr_ hg_
 have hlen3 : ((([] ++ pieceV xr xc p1 xu) ++ pieceV p2 xc xt xu) ++ pieceV pt xc pl p3).length ≤ 3 := pieceV_len _ _ _ _ _ 2 hlen2
 clear N5 N6 NG NR NB hw_
 have w5_0 := z0q h5_ 0; have w5_1 := z0q h5_ 1; have w5_2 := z0q h5_ 2; have w5_3 := z0q h5_ 3
 simp only [List.getElem?_toArray, List.getElem?_cons_zero, List.getElem?_cons_succ] at w5_0 w5_1 w5_2 w5_3
 have w6_0 := z0q h6_ 0; have w6_1 := z0q h6_ 1; have w6_2 := z0q h6_ 2; have w6_3 := z0q h6_ 3
 simp only [List.getElem?_toArray, List.getElem?_cons_zero, List.getElem?_cons_succ] at w6_0 w6_1 w6_2 w6_3
 have wg := (z0q hg_ 0).trans rfl
 have L5 := Lib.hid h5_; have L6 := Lib.hid h6_; have LG := Lib.hid hg_; have LR := Lib.hid hr_; have LB := Lib.hid hb_; clear h5_ h6_ hg_ hr_ hb_
 go_wp2_with fail
 obtain ⟨b3, hb3⟩ : ∃ b : Bool, decide (pt ≤ pl ∧ p4 ≤ xu) = b := ⟨_, rfl⟩
 refine (impl_blockOf.calls pt p4 pl xu pt p4 pl xu b3 _ (blockOf_is _ _ _ _ _ hb3)).mono ?_; rintro e wa3 ⟨rfl, hd⟩
 have M5 := z2q L5.out hd; have M6 := z2q L6.out hd; have MG := z2q LG.out hd; have MR := Kd.R_below LR.out hd; have MB := z8q LB.out hd; clear L5 L6 LG LR LB hd
 have N5 := Lib.hid M5; have N6 := Lib.hid M6; have NG := Lib.hid MG; have NR := Lib.hid MR; have NB := Lib.hid MB; clear M5 M6 MG MR MB
 go_wp2_with fail
 refine (Without_add pt p4 pl xu b3 w7.heap.size _ _ w wa3 NR.out (Nat.le_trans hlen3 (by omega)) NB.out NG.out hgb).mono ?_; rintro e wv3 ⟨rfl, v3, hg_, hr_, hb_, hw_⟩
 obtain ⟨A3_, c3_, rfl⟩ := Kd.R_slice hr_
 have h5_ := hw_ _ _ _ _ (by decide) hne5 N5.out; have h6_ := hw_ _ _ _ _ (by decide) hne6 N6.out
 rw [pieceV_is pt p4 pl xu b3 hb3] at hr_ hg_
 have hlen4 : (((([] ++ pieceV xr xc p1 xu) ++ pieceV p2 xc xt xu) ++ pieceV pt xc pl p3) ++ pieceV pt p4 pl xu).length ≤ 4 := pieceV_len _ _ _ _ _ 3 hlen3
 clear N5 N6 NG NR NB hw_
 have w5_0 := z0q h5_ 0; have w5_1 := z0q h5_ 1; have w5_2 := z0q h5_ 2; have w5_3 := z0q h5_ 3
 simp only [List.getElem?_toArray, List.getElem?_cons_zero, List.getElem?_cons_succ] at w5_0 w5_1 w5_2 w5_3
 have w6_0 := z0q h6_ 0; have w6_1 := z0q h6_ 1; have w6_2 := z0q h6_ 2; have w6_3 := z0q h6_ 3
 simp only [List.getElem?_toArray, List.getElem?_cons_zero, List.getElem?_cons_succ] at w6_0 w6_1 w6_2 w6_3
 have wg := (z0q hg_ 0).trans rfl
 have L5 := Lib.hid h5_; have L6 := Lib.hid h6_; have LG := Lib.hid hg_; have LR := Lib.hid hr_; have LB := Lib.hid hb_; clear h5_ h6_ hg_ hr_ hb_
 go_wp2_with fail
 go_ret
 refine ⟨_, rfl, ?_, LB.out⟩
 have h_ := LR.out
 simpa using h_

set_option maxHeartbeats 8000000 in
set_option maxRecDepth 100000 in
theorem Without_bad (a0_0 : Int) (a0_1 : Int) (a0_2 : Bool) (a0_3 : Bool) (a0_4 : Int) (a0_5 : Int) (a0_6 : Bool) (a0_7 : Bool) (a1_0 : Int) (a1_1 : Int) (a1_2 : Bool) (a1_3 : Bool) (a1_4 : Int) (a1_5 : Int) (a1_6 : Bool) (a1_7 : Bool) (g : Bool) (w : World) (hga : impl_GoodArea.f a0_0 a0_1 a0_2 a0_3 a0_4 a0_5 a0_6 a0_7 = some g) (h : g = false ∨ impl_GoodArea.f a1_0 a1_1 a1_2 a1_3 a1_4 a1_5 a1_6 a1_7 = some false) :
  Calls Try.prog 6 #[.agg #[.int .i64 a0_0, .int .i64 a0_1, .bool a0_2, .bool a0_3, .int .i64 a0_4, .int .i64 a0_5, .bool a0_6, .bool a0_7], .agg #[.int .i64 a1_0, .int .i64 a1_1, .bool a1_2, .bool a1_3, .int .i64 a1_4, .int .i64 a1_5, .bool a1_6, .bool a1_7]] w fun e w' => ∃ v, e = .returned v ∧ Kd.R k26 26 w' w.heap.size (fun _ => True) v [] ∧ Below w.heap.size w w' := by
 have hb0 : Below w.heap.size w ((w.alloc (.cells #[.int .i64 a0_0, .int .i64 a0_1, .bool a0_2, .bool a0_3, .int .i64 a0_4, .int .i64 a0_5, .bool a0_6, .bool a0_7] 26)).alloc (.cells #[.int .i64 a1_0, .int .i64 a1_1, .bool a1_2, .bool a1_3, .int .i64 a1_4, .int .i64 a1_5, .bool a1_6, .bool a1_7] 26)) := z7q (z7q (Below.refl _ _) _) _
 have h2_ := z4q (blk_new w (.cells #[.int .i64 a0_0, .int .i64 a0_1, .bool a0_2, .bool a0_3, .int .i64 a0_4, .int .i64 a0_5, .bool a0_6, .bool a0_7] 26)) (.cells #[.int .i64 a1_0, .int .i64 a1_1, .bool a1_2, .bool a1_3, .int .i64 a1_4, .int .i64 a1_5, .bool a1_6, .bool a1_7] 26)
 have h3_ := blk_new (w.alloc (.cells #[.int .i64 a0_0, .int .i64 a0_1, .bool a0_2, .bool a0_3, .int .i64 a0_4, .int .i64 a0_5, .bool a0_6, .bool a0_7] 26)) (.cells #[.int .i64 a1_0, .int .i64 a1_1, .bool a1_2, .bool a1_3, .int .i64 a1_4, .int .i64 a1_5, .bool a1_6, .bool a1_7] 26)
 rw [show (w.alloc (.cells #[.int .i64 a0_0, .int .i64 a0_1, .bool a0_2, .bool a0_3, .int .i64 a0_4, .int .i64 a0_5, .bool a0_6, .bool a0_7] 26)).heap.size = w.heap.size + 1 from Array.size_push _] at h3_
 have y2_0 := z0q h2_ 0
 have y2_1 := z0q h2_ 1
 have y2_2 := z0q h2_ 2
 have y2_3 := z0q h2_ 3
 have y2_4 := z0q h2_ 4
 have y2_5 := z0q h2_ 5
 have y2_6 := z0q h2_ 6
 have y2_7 := z0q h2_ 7
 simp only [List.getElem?_toArray, List.getElem?_cons_zero, List.getElem?_cons_succ] at y2_0 y2_1 y2_2 y2_3 y2_4 y2_5 y2_6 y2_7
 have lt2 := z14q h2_
 have K2 := Lib.hid h2_; clear h2_
 have y3_0 := z0q h3_ 0
 have y3_1 := z0q h3_ 1
 have y3_2 := z0q h3_ 2
 have y3_3 := z0q h3_ 3
 have y3_4 := z0q h3_ 4
 have y3_5 := z0q h3_ 5
 have y3_6 := z0q h3_ 6
 have y3_7 := z0q h3_ 7
 simp only [List.getElem?_toArray, List.getElem?_cons_zero, List.getElem?_cons_succ] at y3_0 y3_1 y3_2 y3_3 y3_4 y3_5 y3_6 y3_7
 have lt3 := z14q h3_
 have K3 := Lib.hid h3_; clear h3_
 have HB := Lib.hid hb0; have HGA := Lib.hid hga; clear hb0 hga
 cases g
 ·clear h
  go_enter Try.func6, Try.ntmps6
  go_wp2_with fail
  refine (impl_GoodArea.calls a0_0 a0_1 a0_2 a0_3 a0_4 a0_5 a0_6 a0_7 false _ HGA.out).mono ?_; rintro e w1 ⟨rfl, hd⟩; have HB1 := Lib.hid (z8q HB.out hd); clear hd
  go_wp2_with fail
  go_ret
  exact ⟨_, rfl, Kd.R_nil _ _ _ _ _, HB1.out⟩
 ·have HGB := Lib.hid (h.resolve_left (by simp)); clear h
  go_enter Try.func6, Try.ntmps6
  go_wp2_with fail
  refine (impl_GoodArea.calls a0_0 a0_1 a0_2 a0_3 a0_4 a0_5 a0_6 a0_7 true _ HGA.out).mono ?_; rintro e w1 ⟨rfl, hd⟩
  have h3_ := z2q K3.out hd
  have HBn := Lib.hid (z8q HB.out hd); clear hd HB; have HB := HBn; clear HBn
  clear lt3 K3 y3_0 y3_1 y3_2 y3_3 y3_4 y3_5 y3_6 y3_7
  have lt3 := z14q h3_
  have y3_0 := z0q h3_ 0
  have y3_1 := z0q h3_ 1
  have y3_2 := z0q h3_ 2
  have y3_3 := z0q h3_ 3
  have y3_4 := z0q h3_ 4
  have y3_5 := z0q h3_ 5
  have y3_6 := z0q h3_ 6
  have y3_7 := z0q h3_ 7
  simp only [List.getElem?_toArray, List.getElem?_cons_zero, List.getElem?_cons_succ] at y3_0 y3_1 y3_2 y3_3 y3_4 y3_5 y3_6 y3_7
  have K3 := Lib.hid h3_; clear h3_
  go_wp2_with fail
  refine (impl_GoodArea.calls a1_0 a1_1 a1_2 a1_3 a1_4 a1_5 a1_6 a1_7 false _ HGB.out).mono ?_; rintro e w2 ⟨rfl, hd⟩; have HB2 := Lib.hid (z8q HB.out hd); clear hd
  go_wp2_with fail
  go_ret
  exact ⟨_, rfl, Kd.R_nil _ _ _ _ _, HB2.out⟩

theorem impl_Without.calls (a0_0 : Int) (a0_1 : Int) (a0_2 : Bool) (a0_3 : Bool) (a0_4 : Int) (a0_5 : Int) (a0_6 : Bool) (a0_7 : Bool) (a1_0 : Int) (a1_1 : Int) (a1_2 : Bool) (a1_3 : Bool) (a1_4 : Int) (a1_5 : Int) (a1_6 : Bool) (a1_7 : Bool) (r : List S26) (w : World) (h : impl_Without.f a0_0 a0_1 a0_2 a0_3 a0_4 a0_5 a0_6 a0_7 a1_0 a1_1 a1_2 a1_3 a1_4 a1_5 a1_6 a1_7 = some r) :
  Calls Try.prog 6 #[.agg #[.int .i64 a0_0, .int .i64 a0_1, .bool a0_2, .bool a0_3, .int .i64 a0_4, .int .i64 a0_5, .bool a0_6, .bool a0_7], .agg #[.int .i64 a1_0, .int .i64 a1_1, .bool a1_2, .bool a1_3, .int .i64 a1_4, .int .i64 a1_5, .bool a1_6, .bool a1_7]] w fun e w' => ∃ v0_ : Value, e = .returned (v0_) ∧ Kd.R k26 26 w' w.heap.size (fun _ => True) v0_ r ∧ Below w.heap.size w w' := by
 unfold impl_Without.f at h
 obtain ⟨g, hg, h⟩ := Option.bind_eq_some_iff.1 h
 cases g with
 | false =>
  rw [if_neg (by simp)] at h
  obtain rfl := Option.some.inj h
  exact Without_bad _ _ _ _ _ _ _ _ _ _ _ _ _ _ _ _ false w hg (.inl rfl)
 | true =>
  rw [if_pos rfl] at h
  obtain ⟨k, hk, h⟩ := Option.bind_eq_some_iff.1 h
  cases k with
  | false =>
   rw [if_neg (by simp)] at h
   obtain rfl := Option.some.inj h
   exact Without_bad _ _ _ _ _ _ _ _ _ _ _ _ _ _ _ _ true w hg (.inr hk)
  | true =>
   rw [if_pos rfl] at h
   obtain ⟨⟨m0, m1, m2, m3, m4, m5, m6, m7, ok⟩, hm, h⟩ := Option.bind_eq_some_iff.1 h
   cases ok with
   | false =>
    simp only [Bool.false_eq_true, if_false] at h
    obtain rfl := Option.some.inj h
    exact Without_no _ _ _ _ _ _ _ _ _ _ _ _ _ _ _ _ m0 m1 m2 m3 m4 m5 m6 m7 w hg hk hm
   | true =>
    simp only [if_true] at h
    obtain rfl := Option.some.inj h
    exact Without_ok _ _ _ _ _ _ _ _ _ _ _ _ _ _ _ _ m0 m1 m2 m3 m4 m5 m6 m7 w hg hk hm



/-! ### laws_zAreas: function 7 -/

def laws_zAreas.l0 : Nat → List (S26) → List (S26) → Int → Int → Option (Bool)
 | 0, _, _, _, _ => none
 | k + 1, x0, x1, x12, x13 => if x13 < x12 then (if 0 ≤ x13 then (if x13 < (x0.length : Int) then (if x13 < (x1.length : Int) then (if ((!(((rd_T26 x0 x13).f0.f0) == ((rd_T26 x1 x13).f0.f0)) || (!(((rd_T26 x0 x13).f0.f1) == ((rd_T26 x1 x13).f0.f1)) || (!(((rd_T26 x0 x13).f0.f2) == ((rd_T26 x1 x13).f0.f2)) || (!(((rd_T26 x0 x13).f0.f3) == ((rd_T26 x1 x13).f0.f3)))))) || ((!(((rd_T26 x0 x13).f1.f0) == ((rd_T26 x1 x13).f1.f0)) || (!(((rd_T26 x0 x13).f1.f1) == ((rd_T26 x1 x13).f1.f1)) || (!(((rd_T26 x0 x13).f1.f2) == ((rd_T26 x1 x13).f1.f2)) || (!(((rd_T26 x0 x13).f1.f3) == ((rd_T26 x1 x13).f1.f3)))))))) = true then (some false) else (laws_zAreas.l0 k x0 x1 x12 (wrap64 (x13 + 1)))) else (none)) else (none)) else (none)) else (some true)

def laws_zAreas.f (k : Nat) (l0 : List (S26)) (l1 : List (S26)) : Option (Bool) := if (l0.length : Int) = (l1.length : Int) then (laws_zAreas.l0 k l0 l1 (l0.length : Int) 0) else (some false)

set_option maxHeartbeats 8000000 in
set_option maxRecDepth 100000 in
theorem laws_zAreas.calls (k : Nat) (A0 : Option Addr) (c0 : Nat) (l0 : List (S26)) (A1 : Option Addr) (c1 : Nat) (l1 : List (S26)) (r : Bool) (w : World) (hr0 : Kd.C k26 w A0 l0.length l0) (hc0 : l0.length ≤ c0) (hr1 : Kd.C k26 w A1 l1.length l1) (hc1 : l1.length ≤ c1) (h : laws_zAreas.f k l0 l1 = some r) :
  Calls Try.prog 7 #[.slice A0 l0.length c0, .slice A1 l1.length c1] w fun e w' => e = .returned (.bool r) ∧ Drawn0 w w' := by
 have hu26 := Try.underlying26
 have HR0 := Aside0.mk hr0
 have HC0 := Aside0.mk hc0
 clear hr0 hc0
 have HR1 := Aside0.mk hr1
 have HC1 := Aside0.mk hc1
 clear hr1 hc1
 have H : (if (l0.length : Int) = (l1.length : Int) then (laws_zAreas.l0 k l0 l1 (l0.length : Int) 0) else (some false)) = some r := h
 clear h
 by_cases c3 : (l0.length : Int) = (l1.length : Int)
 ·rw [if_pos c3] at H
  have c3b0 : ((l0.length : Int) == (l1.length : Int)) = true := beq_iff_eq.mpr c3
  have c3b1 : ((l0.length : Int) != (l1.length : Int)) = false := bne_eq_false_iff_eq.mpr c3
  have c3b2 : (l0.length == l1.length) = true := by first | simpa using c3 | (simp at c3 ⊢; omega)
  clear c3
  have H' := Aside0.mk H
  clear H
  go_enter Try.func7, Try.ntmps7
  go_wp2
  repeat (go_quiet (fail); try go_wp2)
  go_loopg [13] k (fun kq v13 w' => ∃ (x13_1 : Int), v13 = .int .i64 x13_1 ∧ Aside0 (laws_zAreas.l0 kq l0 l1 (l0.length : Int) x13_1 = some r) ∧ Aside0 (kq ≤ k) ∧ Drawn0 w w')
  case atStart => exact ⟨(0), (by first | rfl | (simp; done) | (simp [*]; done) | (simp; unfold wrap64; omega)), H', ⟨Nat.le_refl _⟩, by repeat (first | exact Drawn0.refl _ | apply Drawn0.step)⟩
  case round =>
   clear H'
   try clear c1
   try clear p2
   try clear c3
   try clear c3b0
   try clear c3b1
   try clear c3b2
   obtain ⟨x13_1, rfl, HA, HK1, ⟨m1, rfl⟩⟩ := hrel
   cases gk with
   | zero => exact absurd HA.out (by simp [laws_zAreas.l0])
   | succ k1 =>
    have H := HA.out
    clear HA
    simp only [laws_zAreas.l0] at H
    by_cases c4 : x13_1 < (l0.length : Int)
    ·rw [if_pos c4] at H
     have c4b0 : decide (x13_1 < (l0.length : Int)) = true := decide_eq_true c4
     clear c4
     by_cases c5 : 0 ≤ x13_1
     ·rw [if_pos c5] at H
      have c5b0 : decide (0 ≤ x13_1) = true := decide_eq_true c5
      clear c5
      by_cases c6 : x13_1 < (l0.length : Int)
      ·rw [if_pos c6] at H
       have c6b0 : decide (x13_1 < (l0.length : Int)) = true := decide_eq_true c6
       clear c6
       by_cases c7 : x13_1 < (l1.length : Int)
       ·rw [if_pos c7] at H
        have c7b0 : decide (x13_1 < (l1.length : Int)) = true := decide_eq_true c7
        clear c7
        by_cases c8 : ((!(((rd_T26 l0 x13_1).f0.f0) == ((rd_T26 l1 x13_1).f0.f0)) || (!(((rd_T26 l0 x13_1).f0.f1) == ((rd_T26 l1 x13_1).f0.f1)) || (!(((rd_T26 l0 x13_1).f0.f2) == ((rd_T26 l1 x13_1).f0.f2)) || (!(((rd_T26 l0 x13_1).f0.f3) == ((rd_T26 l1 x13_1).f0.f3)))))) || ((!(((rd_T26 l0 x13_1).f1.f0) == ((rd_T26 l1 x13_1).f1.f0)) || (!(((rd_T26 l0 x13_1).f1.f1) == ((rd_T26 l1 x13_1).f1.f1)) || (!(((rd_T26 l0 x13_1).f1.f2) == ((rd_T26 l1 x13_1).f1.f2)) || (!(((rd_T26 l0 x13_1).f1.f3) == ((rd_T26 l1 x13_1).f1.f3)))))))) = true
        ·rw [if_pos c8] at H
         have c8b0 : ((!(((rd_T26 l0 x13_1).f0.f0) == ((rd_T26 l1 x13_1).f0.f0)) || (!(((rd_T26 l0 x13_1).f0.f1) == ((rd_T26 l1 x13_1).f0.f1)) || (!(((rd_T26 l0 x13_1).f0.f2) == ((rd_T26 l1 x13_1).f0.f2)) || (!(((rd_T26 l0 x13_1).f0.f3) == ((rd_T26 l1 x13_1).f0.f3)))))) || ((!(((rd_T26 l0 x13_1).f1.f0) == ((rd_T26 l1 x13_1).f1.f0)) || (!(((rd_T26 l0 x13_1).f1.f1) == ((rd_T26 l1 x13_1).f1.f1)) || (!(((rd_T26 l0 x13_1).f1.f2) == ((rd_T26 l1 x13_1).f1.f2)) || (!(((rd_T26 l0 x13_1).f1.f3) == ((rd_T26 l1 x13_1).f1.f3)))))))) = true := c8
         clear c8
         obtain rfl := Option.some.inj H
         have p276 : 0 ≤ (x13_1 : Int) := of_decide_eq_true (by first | (with_reducible assumption) | assumption)
         have q276 : x13_1 < (l0.length : Int) := of_decide_eq_true (by first | (with_reducible assumption) | assumption)
         obtain ⟨ad276, e276, hx276_0, hx276_1, hx276_2, hx276_3, hx276_4, hx276_5, hx276_6, hx276_7⟩ := at_T26 HR0.out x13_1 p276 q276
         cases e276
         replace p276 := eq_true p276
         replace q276 := eq_true q276
         have p277 : 0 ≤ (x13_1 : Int) := of_decide_eq_true (by first | (with_reducible assumption) | assumption)
         have q277 : x13_1 < (l1.length : Int) := of_decide_eq_true (by first | (with_reducible assumption) | assumption)
         obtain ⟨ad277, e277, hx277_0, hx277_1, hx277_2, hx277_3, hx277_4, hx277_5, hx277_6, hx277_7⟩ := at_T26 HR1.out x13_1 p277 q277
         cases e277
         replace p277 := eq_true p277
         replace q277 := eq_true q277
         go_wp2
         repeat (go_quiet (fail); try go_wp2)
         go_ret
         exact ⟨by first | rfl | (simp; done) | (simp [*]; done), by repeat (first | exact Drawn0.refl _ | apply Drawn0.step)⟩
        ·rw [if_neg c8] at H
         have c8b0 : ((!(((rd_T26 l0 x13_1).f0.f0) == ((rd_T26 l1 x13_1).f0.f0)) || (!(((rd_T26 l0 x13_1).f0.f1) == ((rd_T26 l1 x13_1).f0.f1)) || (!(((rd_T26 l0 x13_1).f0.f2) == ((rd_T26 l1 x13_1).f0.f2)) || (!(((rd_T26 l0 x13_1).f0.f3) == ((rd_T26 l1 x13_1).f0.f3)))))) || ((!(((rd_T26 l0 x13_1).f1.f0) == ((rd_T26 l1 x13_1).f1.f0)) || (!(((rd_T26 l0 x13_1).f1.f1) == ((rd_T26 l1 x13_1).f1.f1)) || (!(((rd_T26 l0 x13_1).f1.f2) == ((rd_T26 l1 x13_1).f1.f2)) || (!(((rd_T26 l0 x13_1).f1.f3) == ((rd_T26 l1 x13_1).f1.f3)))))))) = false := by simpa using c8
         clear c8
         have H' := Aside0.mk H
         clear H
         have p276 : 0 ≤ (x13_1 : Int) := of_decide_eq_true (by first | (with_reducible assumption) | assumption)
         have q276 : x13_1 < (l0.length : Int) := of_decide_eq_true (by first | (with_reducible assumption) | assumption)
         obtain ⟨ad276, e276, hx276_0, hx276_1, hx276_2, hx276_3, hx276_4, hx276_5, hx276_6, hx276_7⟩ := at_T26 HR0.out x13_1 p276 q276
         cases e276
         replace p276 := eq_true p276
         replace q276 := eq_true q276
         have p277 : 0 ≤ (x13_1 : Int) := of_decide_eq_true (by first | (with_reducible assumption) | assumption)
         have q277 : x13_1 < (l1.length : Int) := of_decide_eq_true (by first | (with_reducible assumption) | assumption)
         obtain ⟨ad277, e277, hx277_0, hx277_1, hx277_2, hx277_3, hx277_4, hx277_5, hx277_6, hx277_7⟩ := at_T26 HR1.out x13_1 p277 q277
         cases e277
         replace p277 := eq_true p277
         replace q277 := eq_true q277
         go_wp2
         repeat (go_quiet (fail); try go_wp2)
         go_roundg k1
         case measure => have := HK1.out; omega
         case rel => exact ⟨(wrap64 (x13_1 + 1)), (by first | rfl | (simp; done) | (simp [*]; done) | (simp; unfold wrap64; omega)), H', ⟨by have := HK1.out; omega⟩, by repeat (first | exact Drawn0.refl _ | apply Drawn0.step)⟩
       ·rw [if_neg c7] at H
        exact absurd H (by simp)
      ·rw [if_neg c6] at H
       exact absurd H (by simp)
     ·rw [if_neg c5] at H
      exact absurd H (by simp)
    ·rw [if_neg c4] at H
     have c4b0 : decide (x13_1 < (l0.length : Int)) = false := decide_eq_false c4
     clear c4
     obtain rfl := Option.some.inj H
     go_wp2
     repeat (go_quiet (fail); try go_wp2)
     go_ret
     exact ⟨by first | rfl | (simp; done) | (simp [*]; done), by repeat (first | exact Drawn0.refl _ | apply Drawn0.step)⟩
 ·rw [if_neg c3] at H
  have c3b0 : ((l0.length : Int) == (l1.length : Int)) = false := beq_eq_false_iff_ne.mpr c3
  have c3b1 : ((l0.length : Int) != (l1.length : Int)) = true := bne_iff_ne.mpr c3
  have c3b2 : (l0.length == l1.length) = false := by first | simpa using c3 | (simp at c3 ⊢; omega)
  obtain rfl := Option.some.inj H
  go_enter Try.func7, Try.ntmps7
  go_wp2
  repeat (go_quiet (fail); try go_wp2)
  go_ret
  exact ⟨by first | rfl | (simp; done) | (simp [*]; done), by repeat (first | exact Drawn0.refl _ | apply Drawn0.step)⟩



/-! ### spec_GoodRef: function 22 -/

def spec_GoodRef.f (a0_0 : Int) (a0_1 : Int) (a0_2 : Bool) (a0_3 : Bool) : Option (Bool) := if a0_0 ≥ 1 then (if a0_0 ≤ 1000 then (if a0_1 ≥ 1 then (some (decide (a0_1 ≤ 200))) else (some false)) else (some false)) else (some false)

set_option maxHeartbeats 8000000 in
set_option maxRecDepth 100000 in
theorem spec_GoodRef.calls (a0_0 : Int) (a0_1 : Int) (a0_2 : Bool) (a0_3 : Bool) (r : Bool) (w : World) (h : spec_GoodRef.f a0_0 a0_1 a0_2 a0_3 = some r) :
  Calls Try.prog 22 #[.agg #[.int .i64 a0_0, .int .i64 a0_1, .bool a0_2, .bool a0_3]] w fun e w' => e = .returned (.bool r) ∧ Below w.heap.size w w' := by
 have hu24 := Try.underlying24
 have HB := Aside0.mk (Below.refl w.heap.size w)
 have H : (if a0_0 ≥ 1 then (if a0_0 ≤ 1000 then (if a0_1 ≥ 1 then (some (decide (a0_1 ≤ 200))) else (some false)) else (some false)) else (some false)) = some r := h
 clear h
 by_cases c2 : a0_0 ≥ 1
 ·rw [if_pos c2] at H
  have c2b0 : decide (1 ≤ a0_0) = true := decide_eq_true c2
  clear c2
  by_cases c3 : a0_0 ≤ 1000
  ·rw [if_pos c3] at H
   have c3b0 : decide (a0_0 ≤ 1000) = true := decide_eq_true c3
   clear c3
   by_cases c4 : a0_1 ≥ 1
   ·rw [if_pos c4] at H
    have c4b0 : decide (1 ≤ a0_1) = true := decide_eq_true c4
    clear c4
    obtain rfl := Option.some.inj H
    go_enter Try.func22, Try.ntmps22
    go_wp2_with (first | ((with_reducible refine z22q (N := 1) rfl ?_); refine z20q ?hg (N := 1) ?hd (cs := #[.int .i64 a0_0, .int .i64 a0_1, .bool a0_2, .bool a0_3]) (t := 24) ?hr ?_; (case hd => rfl); (case hg => rfl); (case hr => first | (go_simp; done) | (go_simp; rfl)); intro gb278 hg w5 hbox hb; have n0_ := Aside0.mk (z8q (ibh HB.out) hb); have n1_ := Aside0.mk (hbox); have n2_ := Aside0.mk ((by rw [hg]; exact (z13q (ibh HB.out)) : w.heap.size ≤ gb278)); have n3_ := Aside0.mk ((by rw [hg]; exact (z13q (ibh HB.out)) : w.heap.size ≤ gb278)); clear HB; have HB := n0_; have BK278 := n1_; have GW278 := n2_; have GE278 := n3_; clear n0_ n1_ n2_ n3_; clear hb hbox hg; have hcz6_0 : w5.cell? ⟨gb278, 0, none⟩ = some (.int .i64 a0_0) := (z0q BK278.out 0).trans rfl; have hcz6_1 : w5.cell? ⟨gb278, 1, none⟩ = some (.int .i64 a0_1) := (z0q BK278.out 1).trans rfl; have hcz6_2 : w5.cell? ⟨gb278, 2, none⟩ = some (.bool a0_2) := (z0q BK278.out 2).trans rfl; have hcz6_3 : w5.cell? ⟨gb278, 3, none⟩ = some (.bool a0_3) := (z0q BK278.out 3).trans rfl; have hfz6_0 := z1q BK278.out 0; have hfz6_1 := z1q BK278.out 1; have hfz6_2 := z1q BK278.out 2; have hfz6_3 := z1q BK278.out 3))
    go_ret
    exact ⟨by first | rfl | (simp [errW_none, errW_some] <;> rfl) | (simp [*, errW_none, errW_some] <;> rfl), by repeat (first | (with_reducible first | exact HB.out | apply z7q | apply z5q | apply z12q | refine z3q ?_ GE278.out) | exact HB.out)⟩
   ·rw [if_neg c4] at H
    have c4b0 : decide (1 ≤ a0_1) = false := decide_eq_false c4
    clear c4
    obtain rfl := Option.some.inj H
    go_enter Try.func22, Try.ntmps22
    go_wp2_with (first | ((with_reducible refine z22q (N := 1) rfl ?_); refine z20q ?hg (N := 1) ?hd (cs := #[.int .i64 a0_0, .int .i64 a0_1, .bool a0_2, .bool a0_3]) (t := 24) ?hr ?_; (case hd => rfl); (case hg => rfl); (case hr => first | (go_simp; done) | (go_simp; rfl)); intro gb278 hg w7 hbox hb; have n0_ := Aside0.mk (z8q (ibh HB.out) hb); have n1_ := Aside0.mk (hbox); have n2_ := Aside0.mk ((by rw [hg]; exact (z13q (ibh HB.out)) : w.heap.size ≤ gb278)); have n3_ := Aside0.mk ((by rw [hg]; exact (z13q (ibh HB.out)) : w.heap.size ≤ gb278)); clear HB; have HB := n0_; have BK278 := n1_; have GW278 := n2_; have GE278 := n3_; clear n0_ n1_ n2_ n3_; clear hb hbox hg; have hcz8_0 : w7.cell? ⟨gb278, 0, none⟩ = some (.int .i64 a0_0) := (z0q BK278.out 0).trans rfl; have hcz8_1 : w7.cell? ⟨gb278, 1, none⟩ = some (.int .i64 a0_1) := (z0q BK278.out 1).trans rfl; have hcz8_2 : w7.cell? ⟨gb278, 2, none⟩ = some (.bool a0_2) := (z0q BK278.out 2).trans rfl; have hcz8_3 : w7.cell? ⟨gb278, 3, none⟩ = some (.bool a0_3) := (z0q BK278.out 3).trans rfl; have hfz8_0 := z1q BK278.out 0; have hfz8_1 := z1q BK278.out 1; have hfz8_2 := z1q BK278.out 2; have hfz8_3 := z1q BK278.out 3))
    go_ret
    exact ⟨by first | rfl | (simp [errW_none, errW_some] <;> rfl) | (simp [*, errW_none, errW_some] <;> rfl), by repeat (first | (with_reducible first | exact HB.out | apply z7q | apply z5q | apply z12q | refine z3q ?_ GE278.out) | exact HB.out)⟩
  ·rw [if_neg c3] at H
   have c3b0 : decide (a0_0 ≤ 1000) = false := decide_eq_false c3
   clear c3
   obtain rfl := Option.some.inj H
   go_enter Try.func22, Try.ntmps22
   go_wp2_with (first | ((with_reducible refine z22q (N := 1) rfl ?_); refine z20q ?hg (N := 1) ?hd (cs := #[.int .i64 a0_0, .int .i64 a0_1, .bool a0_2, .bool a0_3]) (t := 24) ?hr ?_; (case hd => rfl); (case hg => rfl); (case hr => first | (go_simp; done) | (go_simp; rfl)); intro gb278 hg w9 hbox hb; have n0_ := Aside0.mk (z8q (ibh HB.out) hb); have n1_ := Aside0.mk (hbox); have n2_ := Aside0.mk ((by rw [hg]; exact (z13q (ibh HB.out)) : w.heap.size ≤ gb278)); have n3_ := Aside0.mk ((by rw [hg]; exact (z13q (ibh HB.out)) : w.heap.size ≤ gb278)); clear HB; have HB := n0_; have BK278 := n1_; have GW278 := n2_; have GE278 := n3_; clear n0_ n1_ n2_ n3_; clear hb hbox hg; have hcz10_0 : w9.cell? ⟨gb278, 0, none⟩ = some (.int .i64 a0_0) := (z0q BK278.out 0).trans rfl; have hcz10_1 : w9.cell? ⟨gb278, 1, none⟩ = some (.int .i64 a0_1) := (z0q BK278.out 1).trans rfl; have hcz10_2 : w9.cell? ⟨gb278, 2, none⟩ = some (.bool a0_2) := (z0q BK278.out 2).trans rfl; have hcz10_3 : w9.cell? ⟨gb278, 3, none⟩ = some (.bool a0_3) := (z0q BK278.out 3).trans rfl; have hfz10_0 := z1q BK278.out 0; have hfz10_1 := z1q BK278.out 1; have hfz10_2 := z1q BK278.out 2; have hfz10_3 := z1q BK278.out 3))
   go_ret
   exact ⟨by first | rfl | (simp [errW_none, errW_some] <;> rfl) | (simp [*, errW_none, errW_some] <;> rfl), by repeat (first | (with_reducible first | exact HB.out | apply z7q | apply z5q | apply z12q | refine z3q ?_ GE278.out) | exact HB.out)⟩
 ·rw [if_neg c2] at H
  have c2b0 : decide (1 ≤ a0_0) = false := decide_eq_false c2
  clear c2
  obtain rfl := Option.some.inj H
  go_enter Try.func22, Try.ntmps22
  go_wp2_with (first | ((with_reducible refine z22q (N := 1) rfl ?_); refine z20q ?hg (N := 1) ?hd (cs := #[.int .i64 a0_0, .int .i64 a0_1, .bool a0_2, .bool a0_3]) (t := 24) ?hr ?_; (case hd => rfl); (case hg => rfl); (case hr => first | (go_simp; done) | (go_simp; rfl)); intro gb278 hg w11 hbox hb; have n0_ := Aside0.mk (z8q (ibh HB.out) hb); have n1_ := Aside0.mk (hbox); have n2_ := Aside0.mk ((by rw [hg]; exact (z13q (ibh HB.out)) : w.heap.size ≤ gb278)); have n3_ := Aside0.mk ((by rw [hg]; exact (z13q (ibh HB.out)) : w.heap.size ≤ gb278)); clear HB; have HB := n0_; have BK278 := n1_; have GW278 := n2_; have GE278 := n3_; clear n0_ n1_ n2_ n3_; clear hb hbox hg; have hcz12_0 : w11.cell? ⟨gb278, 0, none⟩ = some (.int .i64 a0_0) := (z0q BK278.out 0).trans rfl; have hcz12_1 : w11.cell? ⟨gb278, 1, none⟩ = some (.int .i64 a0_1) := (z0q BK278.out 1).trans rfl; have hcz12_2 : w11.cell? ⟨gb278, 2, none⟩ = some (.bool a0_2) := (z0q BK278.out 2).trans rfl; have hcz12_3 : w11.cell? ⟨gb278, 3, none⟩ = some (.bool a0_3) := (z0q BK278.out 3).trans rfl; have hfz12_0 := z1q BK278.out 0; have hfz12_1 := z1q BK278.out 1; have hfz12_2 := z1q BK278.out 2; have hfz12_3 := z1q BK278.out 3))
  go_ret
  exact ⟨by first | rfl | (simp [errW_none, errW_some] <;> rfl) | (simp [*, errW_none, errW_some] <;> rfl), by repeat (first | (with_reducible first | exact HB.out | apply z7q | apply z5q | apply z12q | refine z3q ?_ GE278.out) | exact HB.out)⟩



/-! ### spec_GoodArea: function 9 -/

def spec_GoodArea.f (a0_0 : Int) (a0_1 : Int) (a0_2 : Bool) (a0_3 : Bool) (a0_4 : Int) (a0_5 : Int) (a0_6 : Bool) (a0_7 : Bool) : Option (Bool) := (spec_GoodRef.f a0_0 a0_1 a0_2 a0_3).bind fun t280 => (if t280 = true then ((spec_GoodRef.f a0_4 a0_5 a0_6 a0_7).bind fun t281 => (some t281)) else (some false))

set_option maxHeartbeats 8000000 in
set_option maxRecDepth 100000 in
theorem spec_GoodArea.calls (a0_0 : Int) (a0_1 : Int) (a0_2 : Bool) (a0_3 : Bool) (a0_4 : Int) (a0_5 : Int) (a0_6 : Bool) (a0_7 : Bool) (r : Bool) (w : World) (h : spec_GoodArea.f a0_0 a0_1 a0_2 a0_3 a0_4 a0_5 a0_6 a0_7 = some r) :
  Calls Try.prog 9 #[.agg #[.int .i64 a0_0, .int .i64 a0_1, .bool a0_2, .bool a0_3, .int .i64 a0_4, .int .i64 a0_5, .bool a0_6, .bool a0_7]] w fun e w' => e = .returned (.bool r) ∧ Below w.heap.size w w' := by
 have hu26 := Try.underlying26
 have hu24 := Try.underlying24
 have HB := Aside0.mk (Below.refl w.heap.size w)
 have H : ((spec_GoodRef.f a0_0 a0_1 a0_2 a0_3).bind fun t280 => (if t280 = true then ((spec_GoodRef.f a0_4 a0_5 a0_6 a0_7).bind fun t281 => (some t281)) else (some false))) = some r := h
 clear h
 replace H := Option.bind_eq_some_iff.mp H
 obtain ⟨t280, A20, H⟩ := H
 replace H : (if t280 = true then ((spec_GoodRef.f a0_4 a0_5 a0_6 a0_7).bind fun t281 => (some t281)) else (some false)) = some r := H
 have A2 := Aside0.mk A20
 clear A20
 by_cases c3 : t280 = true
 ·subst c3
  have H1 : ((spec_GoodRef.f a0_4 a0_5 a0_6 a0_7).bind fun t281 => (some t281)) = some r := by rw [if_pos rfl] at H; exact H
  clear H
  have H := H1
  clear H1
  replace H := Option.bind_eq_some_iff.mp H
  obtain ⟨t281, A40, H⟩ := H
  replace H : (some t281) = some r := H
  have A4 := Aside0.mk A40
  clear A40
  obtain rfl := Option.some.inj H
  go_enter Try.func9, Try.ntmps9
  go_wp2_with (first | ((with_reducible refine z22q (N := 1) rfl ?_); refine z20q ?hg (N := 1) ?hd (cs := #[.int .i64 a0_0, .int .i64 a0_1, .bool a0_2, .bool a0_3, .int .i64 a0_4, .int .i64 a0_5, .bool a0_6, .bool a0_7]) (t := 26) ?hr ?_; (case hd => rfl); (case hg => rfl); (case hr => first | (go_simp; done) | (go_simp; rfl)); intro gb279 hg w5 hbox hb; have n0_ := Aside0.mk (z8q (ibh HB.out) hb); have n1_ := Aside0.mk (hbox); have n2_ := Aside0.mk ((by rw [hg]; exact (z13q (ibh HB.out)) : w.heap.size ≤ gb279)); have n3_ := Aside0.mk ((by rw [hg]; exact (z13q (ibh HB.out)) : w.heap.size ≤ gb279)); clear HB; have HB := n0_; have BK279 := n1_; have GW279 := n2_; have GE279 := n3_; clear n0_ n1_ n2_ n3_; clear hb hbox hg; have hcz6_0 : w5.cell? ⟨gb279, 0, none⟩ = some (.int .i64 a0_0) := (z0q BK279.out 0).trans rfl; have hcz6_1 : w5.cell? ⟨gb279, 1, none⟩ = some (.int .i64 a0_1) := (z0q BK279.out 1).trans rfl; have hcz6_2 : w5.cell? ⟨gb279, 2, none⟩ = some (.bool a0_2) := (z0q BK279.out 2).trans rfl; have hcz6_3 : w5.cell? ⟨gb279, 3, none⟩ = some (.bool a0_3) := (z0q BK279.out 3).trans rfl; have hcz6_4 : w5.cell? ⟨gb279, 4, none⟩ = some (.int .i64 a0_4) := (z0q BK279.out 4).trans rfl; have hcz6_5 : w5.cell? ⟨gb279, 5, none⟩ = some (.int .i64 a0_5) := (z0q BK279.out 5).trans rfl; have hcz6_6 : w5.cell? ⟨gb279, 6, none⟩ = some (.bool a0_6) := (z0q BK279.out 6).trans rfl; have hcz6_7 : w5.cell? ⟨gb279, 7, none⟩ = some (.bool a0_7) := (z0q BK279.out 7).trans rfl; have hfz6_0 := z1q BK279.out 0; have hfz6_1 := z1q BK279.out 1; have hfz6_2 := z1q BK279.out 2; have hfz6_3 := z1q BK279.out 3; have hfz6_4 := z1q BK279.out 4; have hfz6_5 := z1q BK279.out 5; have hfz6_6 := z1q BK279.out 6; have hfz6_7 := z1q BK279.out 7) | ((with_reducible refine z15q (f := 22) rfl ?_); refine z23q (some 5) rfl rfl Try.func22 (by kernel_rfl) rfl #[.agg #[.int .i64 a0_0, .int .i64 a0_1, .bool a0_2, .bool a0_3]] rfl (by (try simp only [map_toArray, map_cons, map_nil]); first | done | rfl | (simp only [length_drop, length_take]; rfl)) ?_; (with_reducible refine (spec_GoodRef.calls a0_0 a0_1 a0_2 a0_3 true _ A2.out).mono ?_); rintro e w7 ⟨rfl, hb⟩; refine ⟨_, rfl, ?_⟩; have n0_ := Aside0.mk (z2q (cy BK279.out) hb); have n1_ := Aside0.mk (z8q (ibh HB.out) hb); clear BK279; clear HB; have BK279 := n0_; have HB := n1_; clear n0_ n1_; (try clear hb); (try clear hb2); (try clear hk); (try clear hi); have hcz8_0 : w7.cell? ⟨gb279, 0, none⟩ = some (.int .i64 a0_0) := (z0q BK279.out 0).trans rfl; have hcz8_1 : w7.cell? ⟨gb279, 1, none⟩ = some (.int .i64 a0_1) := (z0q BK279.out 1).trans rfl; have hcz8_2 : w7.cell? ⟨gb279, 2, none⟩ = some (.bool a0_2) := (z0q BK279.out 2).trans rfl; have hcz8_3 : w7.cell? ⟨gb279, 3, none⟩ = some (.bool a0_3) := (z0q BK279.out 3).trans rfl; have hcz8_4 : w7.cell? ⟨gb279, 4, none⟩ = some (.int .i64 a0_4) := (z0q BK279.out 4).trans rfl; have hcz8_5 : w7.cell? ⟨gb279, 5, none⟩ = some (.int .i64 a0_5) := (z0q BK279.out 5).trans rfl; have hcz8_6 : w7.cell? ⟨gb279, 6, none⟩ = some (.bool a0_6) := (z0q BK279.out 6).trans rfl; have hcz8_7 : w7.cell? ⟨gb279, 7, none⟩ = some (.bool a0_7) := (z0q BK279.out 7).trans rfl; have hfz8_0 := z1q BK279.out 0; have hfz8_1 := z1q BK279.out 1; have hfz8_2 := z1q BK279.out 2; have hfz8_3 := z1q BK279.out 3; have hfz8_4 := z1q BK279.out 4; have hfz8_5 := z1q BK279.out 5; have hfz8_6 := z1q BK279.out 6; have hfz8_7 := z1q BK279.out 7) | (go_at_call 22; (with_reducible refine (spec_GoodRef.calls a0_4 a0_5 a0_6 a0_7 t281 _ A4.out).mono ?_); rintro e w9 ⟨rfl, hb⟩; have n0_ := Aside0.mk (z2q (cy BK279.out) hb); have n1_ := Aside0.mk (z8q (ibh HB.out) hb); clear BK279; clear HB; have BK279 := n0_; have HB := n1_; clear n0_ n1_; (try clear hb); (try clear hb2); (try clear hk); (try clear hi)))
  go_ret
  exact ⟨by first | rfl | (simp [errW_none, errW_some] <;> rfl) | (simp [*, errW_none, errW_some] <;> rfl), by repeat (first | (with_reducible first | exact HB.out | apply z7q | apply z5q | apply z12q | refine z3q ?_ GE279.out) | exact HB.out)⟩
 ·replace c3 := Bool.eq_false_iff.mpr c3
  subst c3
  have H1 : (some false) = some r := by rw [if_neg (show ¬ (false = true) by decide)] at H; exact H
  clear H
  have H := H1
  clear H1
  obtain rfl := Option.some.inj H
  go_enter Try.func9, Try.ntmps9
  go_wp2_with (first | ((with_reducible refine z22q (N := 1) rfl ?_); refine z20q ?hg (N := 1) ?hd (cs := #[.int .i64 a0_0, .int .i64 a0_1, .bool a0_2, .bool a0_3, .int .i64 a0_4, .int .i64 a0_5, .bool a0_6, .bool a0_7]) (t := 26) ?hr ?_; (case hd => rfl); (case hg => rfl); (case hr => first | (go_simp; done) | (go_simp; rfl)); intro gb279 hg w10 hbox hb; have n0_ := Aside0.mk (z8q (ibh HB.out) hb); have n1_ := Aside0.mk (hbox); have n2_ := Aside0.mk ((by rw [hg]; exact (z13q (ibh HB.out)) : w.heap.size ≤ gb279)); have n3_ := Aside0.mk ((by rw [hg]; exact (z13q (ibh HB.out)) : w.heap.size ≤ gb279)); clear HB; have HB := n0_; have BK279 := n1_; have GW279 := n2_; have GE279 := n3_; clear n0_ n1_ n2_ n3_; clear hb hbox hg; have hcz11_0 : w10.cell? ⟨gb279, 0, none⟩ = some (.int .i64 a0_0) := (z0q BK279.out 0).trans rfl; have hcz11_1 : w10.cell? ⟨gb279, 1, none⟩ = some (.int .i64 a0_1) := (z0q BK279.out 1).trans rfl; have hcz11_2 : w10.cell? ⟨gb279, 2, none⟩ = some (.bool a0_2) := (z0q BK279.out 2).trans rfl; have hcz11_3 : w10.cell? ⟨gb279, 3, none⟩ = some (.bool a0_3) := (z0q BK279.out 3).trans rfl; have hcz11_4 : w10.cell? ⟨gb279, 4, none⟩ = some (.int .i64 a0_4) := (z0q BK279.out 4).trans rfl; have hcz11_5 : w10.cell? ⟨gb279, 5, none⟩ = some (.int .i64 a0_5) := (z0q BK279.out 5).trans rfl; have hcz11_6 : w10.cell? ⟨gb279, 6, none⟩ = some (.bool a0_6) := (z0q BK279.out 6).trans rfl; have hcz11_7 : w10.cell? ⟨gb279, 7, none⟩ = some (.bool a0_7) := (z0q BK279.out 7).trans rfl; have hfz11_0 := z1q BK279.out 0; have hfz11_1 := z1q BK279.out 1; have hfz11_2 := z1q BK279.out 2; have hfz11_3 := z1q BK279.out 3; have hfz11_4 := z1q BK279.out 4; have hfz11_5 := z1q BK279.out 5; have hfz11_6 := z1q BK279.out 6; have hfz11_7 := z1q BK279.out 7) | ((with_reducible refine z15q (f := 22) rfl ?_); refine z23q (some 5) rfl rfl Try.func22 (by kernel_rfl) rfl #[.agg #[.int .i64 a0_0, .int .i64 a0_1, .bool a0_2, .bool a0_3]] rfl (by (try simp only [map_toArray, map_cons, map_nil]); first | done | rfl | (simp only [length_drop, length_take]; rfl)) ?_; (with_reducible refine (spec_GoodRef.calls a0_0 a0_1 a0_2 a0_3 false _ A2.out).mono ?_); rintro e w12 ⟨rfl, hb⟩; refine ⟨_, rfl, ?_⟩; have n0_ := Aside0.mk (z2q (cy BK279.out) hb); have n1_ := Aside0.mk (z8q (ibh HB.out) hb); clear BK279; clear HB; have BK279 := n0_; have HB := n1_; clear n0_ n1_; (try clear hb); (try clear hb2); (try clear hk); (try clear hi)))
  go_ret
  exact ⟨by first | rfl | (simp [errW_none, errW_some] <;> rfl) | (simp [*, errW_none, errW_some] <;> rfl), by repeat (first | (with_reducible first | exact HB.out | apply z7q | apply z5q | apply z12q | refine z3q ?_ GE279.out) | exact HB.out)⟩



/-! ### spec_l3Normal: function 20 -/

def spec_l3Normal.f (a0_0 : Int) (a0_1 : Int) (a0_2 : Bool) (a0_3 : Bool) (a0_4 : Int) (a0_5 : Int) (a0_6 : Bool) (a0_7 : Bool) : Option (Int × Int × Bool × Bool × Int × Int × Bool × Bool) := if a0_0 > a0_4 then (if a0_1 > a0_5 then (some (a0_4, a0_5, a0_6, a0_7, a0_0, a0_1, a0_2, a0_3)) else (some (a0_4, a0_1, a0_6, a0_3, a0_0, a0_5, a0_2, a0_7))) else (if a0_1 > a0_5 then (some (a0_0, a0_5, a0_2, a0_7, a0_4, a0_1, a0_6, a0_3)) else (some (a0_0, a0_1, a0_2, a0_3, a0_4, a0_5, a0_6, a0_7)))

set_option maxHeartbeats 8000000 in
set_option maxRecDepth 100000 in
theorem spec_l3Normal.calls (a0_0 : Int) (a0_1 : Int) (a0_2 : Bool) (a0_3 : Bool) (a0_4 : Int) (a0_5 : Int) (a0_6 : Bool) (a0_7 : Bool) (r1 : Int) (r2 : Int) (r3 : Bool) (r4 : Bool) (r5 : Int) (r6 : Int) (r7 : Bool) (r8 : Bool) (w : World) (h : spec_l3Normal.f a0_0 a0_1 a0_2 a0_3 a0_4 a0_5 a0_6 a0_7 = some (r1, r2, r3, r4, r5, r6, r7, r8)) :
  Calls Try.prog 20 #[.agg #[.int .i64 a0_0, .int .i64 a0_1, .bool a0_2, .bool a0_3, .int .i64 a0_4, .int .i64 a0_5, .bool a0_6, .bool a0_7]] w fun e w' => e = .returned (.agg #[.int .i64 r1, .int .i64 r2, .bool r3, .bool r4, .int .i64 r5, .int .i64 r6, .bool r7, .bool r8]) ∧ Below w.heap.size w w' := by
 unfold spec_l3Normal.f at h
 by_cases c2 : a0_0 > a0_4 <;> by_cases c3 : a0_1 > a0_5
 all_goals
  simp only [c2, c3, if_true, if_false, Option.some.injEq, Prod.mk.injEq] at h
  obtain ⟨rfl, rfl, rfl, rfl, rfl, rfl, rfl, rfl⟩ := h
  first
   | (have b2 : decide (a0_4 < a0_0) = true := decide_eq_true c2; clear c2)
   | (have b2 : decide (a0_4 < a0_0) = false := decide_eq_false c2; clear c2)
  first
   | (have b3 : decide (a0_5 < a0_1) = true := decide_eq_true c3; clear c3)
   | (have b3 : decide (a0_5 < a0_1) = false := decide_eq_false c3; clear c3)
  go_enter Try.func20, Try.ntmps20
  go_wp2
  refine bodyPost_ret (by simp [results, Try.results20, go_sem]) rfl ⟨rfl, ?_⟩
  exact (((Below.refl _ _).alloc (Nat.le_refl _) _).alloc (by simp) _).alloc (by first | (simp; done) | (simp; omega)) _

/-! ### spec_l3Area: function 21 -/

def spec_l3Area.f (a0 : Int) (a1 : Int) (a2 : Int) (a3 : Int) : Option (Int × Int × Bool × Bool × Int × Int × Bool × Bool) := some (a0, a1, false, false, a2, a3, false, false)

set_option maxHeartbeats 8000000 in
set_option maxRecDepth 100000 in
theorem spec_l3Area.calls (a0 : Int) (a1 : Int) (a2 : Int) (a3 : Int) (r1 : Int) (r2 : Int) (r3 : Bool) (r4 : Bool) (r5 : Int) (r6 : Int) (r7 : Bool) (r8 : Bool) (w : World) (h : spec_l3Area.f a0 a1 a2 a3 = some (r1, r2, r3, r4, r5, r6, r7, r8)) :
  Calls Try.prog 21 #[.int .i64 a0, .int .i64 a1, .int .i64 a2, .int .i64 a3] w fun e w' => e = .returned (.agg #[.int .i64 r1, .int .i64 r2, .bool r3, .bool r4, .int .i64 r5, .int .i64 r6, .bool r7, .bool r8]) ∧ Below w.heap.size w w' := by
 have hu26 := Try.underlying26
 have hu24 := Try.underlying24
 have HB := Aside0.mk (Below.refl w.heap.size w)
 have H : (some (a0, a1, false, false, a2, a3, false, false)) = some (r1, r2, r3, r4, r5, r6, r7, r8) := h
 clear h
 simp only [Option.some.injEq, Prod.mk.injEq] at H
 obtain ⟨rfl, rfl, rfl, rfl, rfl, rfl, rfl, rfl⟩ := H
 go_enter Try.func21, Try.ntmps21
 go_wp2_with (first | ((with_reducible refine z22q (N := 8) rfl ?_); refine z20q ?hg (N := 8) ?hd (cs := #[.int .i64 0, .int .i64 0, .bool false, .bool false, .int .i64 0, .int .i64 0, .bool false, .bool false]) (t := 26) ?hr ?_; (case hd => rfl); (case hg => rfl); (case hr => first | (go_simp; done) | (go_simp; rfl)); intro gb285 hg w5 hbox hb; have n0_ := Aside0.mk (z8q (ibh HB.out) hb); have n1_ := Aside0.mk (hbox); have n2_ := Aside0.mk ((by rw [hg]; exact (z13q (ibh HB.out)) : w.heap.size ≤ gb285)); have n3_ := Aside0.mk ((by rw [hg]; exact (z13q (ibh HB.out)) : w.heap.size ≤ gb285)); clear HB; have HB := n0_; have BK285 := n1_; have GW285 := n2_; have GE285 := n3_; clear n0_ n1_ n2_ n3_; clear hb hbox hg; have hcz6_0 : w5.cell? ⟨gb285, 0, none⟩ = some (.int .i64 0) := (z0q BK285.out 0).trans rfl; have hcz6_1 : w5.cell? ⟨gb285, 1, none⟩ = some (.int .i64 0) := (z0q BK285.out 1).trans rfl; have hcz6_2 : w5.cell? ⟨gb285, 2, none⟩ = some (.bool false) := (z0q BK285.out 2).trans rfl; have hcz6_3 : w5.cell? ⟨gb285, 3, none⟩ = some (.bool false) := (z0q BK285.out 3).trans rfl; have hcz6_4 : w5.cell? ⟨gb285, 4, none⟩ = some (.int .i64 0) := (z0q BK285.out 4).trans rfl; have hcz6_5 : w5.cell? ⟨gb285, 5, none⟩ = some (.int .i64 0) := (z0q BK285.out 5).trans rfl; have hcz6_6 : w5.cell? ⟨gb285, 6, none⟩ = some (.bool false) := (z0q BK285.out 6).trans rfl; have hcz6_7 : w5.cell? ⟨gb285, 7, none⟩ = some (.bool false) := (z0q BK285.out 7).trans rfl; have hfz6_0 := z1q BK285.out 0; have hfz6_1 := z1q BK285.out 1; have hfz6_2 := z1q BK285.out 2; have hfz6_3 := z1q BK285.out 3; have hfz6_4 := z1q BK285.out 4; have hfz6_5 := z1q BK285.out 5; have hfz6_6 := z1q BK285.out 6; have hfz6_7 := z1q BK285.out 7))
 refine bodyPost_ret (results_cell_row rfl _ _ gb285 26 #[.int .i64 a0, .int .i64 a1, .bool false, .bool false, .int .i64 a2, .int .i64 a3, .bool false, .bool false] (0, 0) _ rfl (by refine cz ?_; refine z6q (cs := #[.int .i64 a0, .int .i64 a1, .bool false, .bool false, .int .i64 a2, .int .i64 a3, .bool false, .bool false]) ?_ 7 _ rfl; refine cz ?_; refine z6q (cs := #[.int .i64 a0, .int .i64 a1, .bool false, .bool false, .int .i64 a2, .int .i64 a3, .bool false, .bool false]) ?_ 6 _ rfl; refine cz ?_; refine z6q (cs := #[.int .i64 a0, .int .i64 a1, .bool false, .bool false, .int .i64 a2, .int .i64 0, .bool false, .bool false]) ?_ 5 _ rfl; refine cz ?_; refine z6q (cs := #[.int .i64 a0, .int .i64 a1, .bool false, .bool false, .int .i64 0, .int .i64 0, .bool false, .bool false]) ?_ 4 _ rfl; refine cz ?_; refine z6q (cs := #[.int .i64 a0, .int .i64 a1, .bool false, .bool false, .int .i64 0, .int .i64 0, .bool false, .bool false]) ?_ 3 _ rfl; refine cz ?_; refine z6q (cs := #[.int .i64 a0, .int .i64 a1, .bool false, .bool false, .int .i64 0, .int .i64 0, .bool false, .bool false]) ?_ 2 _ rfl; refine cz ?_; refine z6q (cs := #[.int .i64 a0, .int .i64 0, .bool false, .bool false, .int .i64 0, .int .i64 0, .bool false, .bool false]) ?_ 1 _ rfl; refine cz ?_; refine z6q (cs := #[.int .i64 0, .int .i64 0, .bool false, .bool false, .int .i64 0, .int .i64 0, .bool false, .bool false]) ?_ 0 _ rfl; exact cy BK285.out) Try.underlying26 rfl (by kernel_rfl)) rfl ?_
 exact ⟨by first | rfl | (simp [errW_none, errW_some] <;> rfl) | (simp [*, errW_none, errW_some] <;> rfl), by repeat (first | (with_reducible first | exact HB.out | apply z7q | apply z5q | apply z12q | refine z3q ?_ GE285.out) | exact HB.out)⟩



/-! ### spec_l3Max: function 23 -/

def spec_l3Max.f (a0 : Int) (a1 : Int) : Option (Int) := if a0 > a1 then (some a0) else (some a1)

end Go.Proofs.Ytjjignjjnnmajaa.PFnAreas
