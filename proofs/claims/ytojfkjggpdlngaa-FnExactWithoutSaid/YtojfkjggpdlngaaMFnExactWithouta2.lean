/- Functions of the program as Lean functions, and proofs that the Go code comes to their answers: for the law FnExactWithout; made out of the print by a program of mine (compact.py). No conditions but each theorem's own. -/
import Derived.Test.YtojfkjggpdlngaaMFnExactWithouta0
import Derived.Test.YtojfkjggpdlngaaMFnExactWithouta1
namespace Go.Proofs.Ytojfkjggpdlngaa.PFnExactWithout
open Go.RowKit Go.Proofs.YtojfkjggpdlngaaW.PrintWords Go.Proofs.YtojfkjggpdlngaaW.PrintLast Go.Proofs.YtojfkjggpdlngaaW.PrintMore
attribute [local go_sem] max2_int min2_int max_two min_two max_three min_three max_four min_four   -- for this text's walks alone
set_option linter.unusedVariables false
set_option linter.unusedSimpArgs false

set_option maxHeartbeats 8000000 in
set_option maxRecDepth 100000 in
theorem impl_Meet.calls (k : Nat) (a0_0 : Int) (a0_1 : Int) (a0_2 : Bool) (a0_3 : Bool) (a0_4 : Int) (a0_5 : Int) (a0_6 : Bool) (a0_7 : Bool) (a1_0 : Int) (a1_1 : Int) (a1_2 : Bool) (a1_3 : Bool) (a1_4 : Int) (a1_5 : Int) (a1_6 : Bool) (a1_7 : Bool) (r1 : Int) (r2 : Int) (r3 : Bool) (r4 : Bool) (r5 : Int) (r6 : Int) (r7 : Bool) (r8 : Bool) (r9 : Bool) (w : World) (h : impl_Meet.f k a0_0 a0_1 a0_2 a0_3 a0_4 a0_5 a0_6 a0_7 a1_0 a1_1 a1_2 a1_3 a1_4 a1_5 a1_6 a1_7 = some (r1, r2, r3, r4, r5, r6, r7, r8, r9)) :
    Calls Try.prog 13 #[.agg #[.int .i64 a0_0, .int .i64 a0_1, .bool a0_2, .bool a0_3, .int .i64 a0_4, .int .i64 a0_5, .bool a0_6, .bool a0_7], .agg #[.int .i64 a1_0, .int .i64 a1_1, .bool a1_2, .bool a1_3, .int .i64 a1_4, .int .i64 a1_5, .bool a1_6, .bool a1_7]] w fun e w' => e = .returned (.tuple #[.agg #[.int .i64 r1, .int .i64 r2, .bool r3, .bool r4, .int .i64 r5, .int .i64 r6, .bool r7, .bool r8], .bool r9]) ∧ Below w.heap.size w w' := by
  have H : ((impl_GoodArea.f a0_0 a0_1 a0_2 a0_3 a0_4 a0_5 a0_6 a0_7).bind fun t119 => (if t119 = true then ((impl_GoodArea.f a1_0 a1_1 a1_2 a1_3 a1_4 a1_5 a1_6 a1_7).bind fun t120 => (impl_Meet.j0 k (!t120) a0_0 a0_1 a0_2 a0_3 a0_4 a0_5 a0_6 a0_7 a1_0 a1_1 a1_2 a1_3 a1_4 a1_5 a1_6 a1_7)) else (impl_Meet.j0 k true a0_0 a0_1 a0_2 a0_3 a0_4 a0_5 a0_6 a0_7 a1_0 a1_1 a1_2 a1_3 a1_4 a1_5 a1_6 a1_7))) = some (r1, r2, r3, r4, r5, r6, r7, r8, r9) := h
  exact impl_Meet.calls_p1 k a0_0 a0_1 a0_2 a0_3 a0_4 a0_5 a0_6 a0_7 a1_0 a1_1 a1_2 a1_3 a1_4 a1_5 a1_6 a1_7 r1 r2 r3 r4 r5 r6 r7 r8 r9 w H

/-! ### impl_Without: function 14 -/

def areaV (r c tr tc : Int) : S33 := ⟨⟨r, c, false, false⟩, ⟨tr, tc, false, false⟩⟩

def pieceV (r c tr tc : Int) : List S33 := if r ≤ tr ∧ c ≤ tc then [areaV r c tr tc] else []

def piecesV (xr xc xt xu yr yc yt yu : Int) : List S33 :=
  pieceV xr xc (mn xt (wrap64 (yr - 1))) xu ++ pieceV (mx xr (wrap64 (yt + 1))) xc xt xu ++ pieceV (mx xr yr) xc (mn xt yt) (mn xu (wrap64 (yc - 1))) ++ pieceV (mx xr yr) (mx xc (wrap64 (yu + 1))) (mn xt yt) xu

def impl_Without.f (a0_0 : Int) (a0_1 : Int) (a0_2 : Bool) (a0_3 : Bool) (a0_4 : Int) (a0_5 : Int) (a0_6 : Bool) (a0_7 : Bool) (a1_0 : Int) (a1_1 : Int) (a1_2 : Bool) (a1_3 : Bool) (a1_4 : Int) (a1_5 : Int) (a1_6 : Bool) (a1_7 : Bool) : Option (List S33) :=
  (impl_GoodArea.f a0_0 a0_1 a0_2 a0_3 a0_4 a0_5 a0_6 a0_7).bind fun g => if g = true then ((impl_GoodArea.f a1_0 a1_1 a1_2 a1_3 a1_4 a1_5 a1_6 a1_7).bind fun h => if h = true then ((impl_Meet.f 9 a0_0 a0_1 a0_2 a0_3 a0_4 a0_5 a0_6 a0_7 a1_0 a1_1 a1_2 a1_3 a1_4 a1_5 a1_6 a1_7).bind fun m =>
    some (if m.2.2.2.2.2.2.2.2 = true then piecesV (mn a0_0 a0_4) (mn a0_1 a0_5) (mx a0_0 a0_4) (mx a0_1 a0_5) (mn a1_0 a1_4) (mn a1_1 a1_5) (mx a1_0 a1_4) (mx a1_1 a1_5) else [areaV (mn a0_0 a0_4) (mn a0_1 a0_5) (mx a0_0 a0_4) (mx a0_1 a0_5)])) else some []) else some []

theorem woCellDrew {W : World} {b i : Nat} {v : Value} (h : W.cell? ⟨b, i, none⟩ = some v) : W.drew.cell? ⟨b, i, none⟩ = some v := h

/-- What of a world stays behind a call of the closure: each block that is neither the variable nor of the areas' type. -/
def WoK (w w' : World) (g : Nat) : Prop := ∀ k cs t fr, t ≠ 33 → k ≠ g → w.heap[k]? = some (.cells cs t fr) → w'.heap[k]? = some (.cells cs t fr)

theorem add_after {W1 W w1 : World} {g b : Nat} {v : Value} {xs : List S33} {base : Nat} {cs : Array Value} (hb : Below W1.heap.size W1 W) (hR : Kd.R k33 33 W1 base (fun _ => True) v xs) (hg : W1.heap[g]? = some (.cells #[v] 38 (0, 0))) (hx : W1.heap[b]? = some (.cells cs 77 (0, 0))) (hgr : W.grownBy w1 v.ownBlock) :
    w1.heap[g]? = some (.cells #[v] 38 (0, 0)) ∧ w1.heap[b]? = some (.cells cs 77 (0, 0)) := by
  have hRW := Kd.R_below hR hb
  exact ⟨blk_grown (blk_below hg hb) hgr (Kd.R_ne hRW (blk_below hg hb) (by decide)), blk_grown (blk_below hx hb) hgr (Kd.R_ne hRW (blk_below hx hb) (by decide))⟩

theorem add_wok {w W1 W w1 : World} {g : Nat} {v v1 : Value} {xs : List S33} {base : Nat} (hw : Below w.heap.size w W1) (hb : Below W1.heap.size W1 W) (hR : Kd.R k33 33 W1 base (fun _ => True) v xs) (hgr : W.grownBy w1 v.ownBlock) : WoK w (w1.setCell ⟨g, 0, none⟩ v1) g := by
  intro k cs t fr ht hk h
  have h1 := blk_below (blk_below h hw) hb
  have hne : some k ≠ v.ownBlock := by
    intro e
    obtain ⟨cells, hc⟩ := own_typed (Kd.R_below hR hb).2.choose_spec.1 k e.symm
    rw [hc] at h1
    injection h1 with h1; injection h1 with _ h1
    exact ht h1.symm
  exact (Below.heap_setCell w1 ⟨g, 0, none⟩ v1 k hk).trans ((hgr.block k (blk_lt h1) hne).trans h1)

set_option maxHeartbeats 4000000 in
set_option maxRecDepth 100000 in
/-- The closure: where ok, what it captured grows by the area of the block. -/
theorem Without_add (r c tr tc : Int) (ok : Bool) (g : Nat) (v : Value) (xs : List S33) (w0 w : World) (hR : Kd.R k33 33 w w0.heap.size (fun _ => True) v xs) (hl : xs.length ≤ 100) (hB : Below w0.heap.size w0 w) (hg : w.heap[g]? = some (.cells #[v] 38 (0, 0))) (hgb : w0.heap.size ≤ g) :
    Calls Try.prog 51 #[.agg #[.int .i64 r, .int .i64 c, .int .i64 tr, .int .i64 tc], .bool ok, .pointer (some ⟨g, 0, none⟩)] w fun e w' => e = .returned (.tuple #[]) ∧ ∃ v', w'.heap[g]? = some (.cells #[v'] 38 (0, 0)) ∧ Kd.R k33 33 w' w0.heap.size (fun _ => True) v' (xs ++ (if ok = true then [areaV r c tr tc] else [])) ∧ Below w0.heap.size w0 w' ∧ WoK w w' g := by
  have hsz := World.size_alloc w (.cells #[.int .i64 r, .int .i64 c, .int .i64 tr, .int .i64 tc] 77)
  have hbw : Below w.heap.size w (w.alloc (.cells #[.int .i64 r, .int .i64 c, .int .i64 tr, .int .i64 tc] 77)) := below_alloc (Below.refl _ _) _
  have hgl := blk_lt hg
  have hc0 : (w.alloc (.cells #[.int .i64 r, .int .i64 c, .int .i64 tr, .int .i64 tc] 77)).cell? ⟨g, 0, none⟩ = some v := (blk_cell (blk_alloc hg _) 0).trans rfl
  cases ok
  · have HB := Lib.hid hB; have HR := Lib.hid hR; have HG := Lib.hid hg; clear hB hR hg
    go_enter Try.func51, Try.ntmps51
    go_wp2_with fail
    go_end0
    refine ⟨rfl, v, blk_alloc HG.out _, by simpa using Kd.R_alloc HR.out _, below_alloc HB.out _, fun k cs t fr _ _ hk => blk_alloc hk _⟩
  · have hx0 := blk_new w (.cells #[.int .i64 r, .int .i64 c, .int .i64 tr, .int .i64 tc] 77)
    have y0 := blk_cell hx0 0; have y1 := blk_cell hx0 1; have y2 := blk_cell hx0 2; have y3 := blk_cell hx0 3
    simp only [List.getElem?_toArray, List.getElem?_cons_zero, List.getElem?_cons_succ] at y0 y1 y2 y3
    have HB := Lib.hid hB; have HR := Lib.hid hR; have HG := Lib.hid hg; have HBW := Lib.hid hbw; have hx1 := hx0; clear hB hR hg hx0 hbw
    generalize hW1 : w.alloc (.cells #[.int .i64 r, .int .i64 c, .int .i64 tr, .int .i64 tc] 77) = W1 at *
    have HR1 := Lib.hid (Kd.R_below HR.out HBW.out)
    have HG1 := Lib.hid (blk_below HG.out HBW.out)
    have HX1 := Lib.hid hx1; clear hx1
    go_enter Try.func51, Try.ntmps51
    go_wp2_with fail
    have d0 : W1.drew.cell? ⟨g, 0, none⟩ = some v := hc0
    have d1 := woCellDrew y0; have d2 := woCellDrew y1; have d3 := woCellDrew y2; have d4 := woCellDrew y3
    go_region_law (first
          | (refine goes_ (N := some 8) Try.func50 (by kernel_rfl) rfl #[.agg #[.int .i64 r, .int .i64 c, .int .i64 tr, .int .i64 tc]] (by rfl) rfl rfl (by (try simp only [List.map_toArray, List.map_cons, List.map_nil]); first | done | rfl) ?_; (with_reducible refine (impl_block_area.calls r c tr tc r c false false tr tc false false _ rfl).mono ?_); rintro e w5 ⟨rfl, hb⟩; refine ⟨_, rfl, ?_⟩; have HB5 : Hid (Below W1.heap.size W1 w5) := Lib.hid (show Below W1.heap.size W1 w5 from below_step (below_drew (Below.refl W1.heap.size W1)) hb); have c0 := pw_cell_below hb d0; have c1 := pw_cell_below (below_alloc (Below.refl w5.heap.size w5) (.cells #[.int .i64 r, .int .i64 c, .bool false, .bool false, .int .i64 tr, .int .i64 tc, .bool false, .bool false] 33)) c0)
          | (refine Kd.R_append_step k33 (w0 := w0) w0.heap.size (by rfl) (.tmp 6) (.tmp 9) 38 33 (.agg #[(.int .i64 0), (.int .i64 0), (.bool false), (.bool false), (.int .i64 0), (.int .i64 0), (.bool false), (.bool false)]) 48 rfl Try.underlying38 info33 rfl (by decide) (by omega) v xs (areaV r c tr tc) [.int .i64 r, .int .i64 c, .bool false, .bool false, .int .i64 tr, .int .i64 tc, .bool false, .bool false] (fun _ => True) (fun _ => False) rfl rfl (k33_mkM _ _ _ (areaV r c tr tc)) (fun _ hk => hk.elim) (fun _ _ => trivial) (Kd.R_below HR1.out HB5.out) (below_step (below_step HB.out HBW.out) HB5.out) (below_step (below_step HB.out HBW.out) HB5.out).size (by omega) ?_; intro v1 w1 hO1 hb1 hg1 hat1; obtain ⟨A1, c1, rfl⟩ := Kd.R_slice hO1; obtain ⟨HGa, HXa⟩ := add_after HB5.out HR1.out HG1.out HX1.out hg1; have HGb := Lib.hid HGa; have HO1 := Lib.hid hO1; have HW1 : Hid (WoK w (w1.setCell ⟨g, 0, none⟩ (.slice A1 (xs ++ [areaV r c tr tc]).length c1)) g) := Lib.hid (add_wok HBW.out HB5.out HR1.out hg1); have HD1 := Lib.hid hb1; clear hO1 hb1 hg1 hat1; have q0 : w1.cell? ⟨g, 0, none⟩ = some v := (blk_cell HGa 0).trans rfl; have p0 := blk_cell HXa 0; have p1 := blk_cell HXa 1; have p2 := blk_cell HXa 2; have p3 := blk_cell HXa 3; simp only [List.getElem?_toArray, List.getElem?_cons_zero, List.getElem?_cons_succ] at p0 p1 p2 p3; have f0 : w1.frozen? ⟨g, 0, none⟩ = false := blk_frozen HGa 0; clear HGa HXa))
    all_goals
      go_end0
      refine ⟨rfl, _, blk_put HGb.out 0 _ rfl, ?_, below_set HD1.out hgb, by simpa using HW1.out⟩
      have := Kd.R_set HO1.out HGb.out (by decide) 0 (Value.slice A1 (xs ++ [areaV r c tr tc]).length c1)
      simpa using this

theorem blockOf_is (r c tr tc : Int) (b : Bool) (hb : decide (r ≤ tr ∧ c ≤ tc) = b) : impl_blockOf.f r c tr tc = some (r, c, tr, tc, b) := by
  unfold impl_blockOf.f
  subst hb
  by_cases h : r ≤ tr
  · rw [if_pos h]; simp [h]
  · rw [if_neg h]; simp [h]

theorem pieceV_is (r c tr tc : Int) (b : Bool) (hb : decide (r ≤ tr ∧ c ≤ tc) = b) : (if b = true then [areaV r c tr tc] else []) = pieceV r c tr tc := by
  subst hb; unfold pieceV; simp

theorem pieceV_len (xs : List S33) (r c tr tc : Int) (n : Nat) (h : xs.length ≤ n) : (xs ++ pieceV r c tr tc).length ≤ n + 1 := by
  unfold pieceV; rw [List.length_append]; split <;> simp <;> omega

theorem woFar4 {w : World} {g k : Nat} {o : Obj} {u0 u1 u2 u3 : Value} (h : w.heap[g]? = some o) (hne : g ≠ k) : ((((w.setCell ⟨k, 0, none⟩ u0).setCell ⟨k, 1, none⟩ u1).setCell ⟨k, 2, none⟩ u2).setCell ⟨k, 3, none⟩ u3).heap[g]? = some o :=
  (Below.heap_setCell _ _ _ g hne).trans ((Below.heap_setCell _ _ _ g hne).trans ((Below.heap_setCell _ _ _ g hne).trans ((Below.heap_setCell _ _ _ g hne).trans h)))

theorem woPut4 {w : World} {g : Nat} {t : TypeId} {c0 c1 c2 c3 u0 u1 u2 u3 : Value} (h : w.heap[g]? = some (.cells #[c0, c1, c2, c3] t (0, 0))) :
    ((((w.setCell ⟨g, 0, none⟩ u0).setCell ⟨g, 1, none⟩ u1).setCell ⟨g, 2, none⟩ u2).setCell ⟨g, 3, none⟩ u3).heap[g]? = some (.cells #[u0, u1, u2, u3] t (0, 0)) := by
  have h1 := blk_put h 0 u0 (cs' := #[u0, c1, c2, c3]) rfl
  have h2 := blk_put h1 1 u1 (cs' := #[u0, u1, c2, c3]) rfl
  have h3 := blk_put h2 2 u2 (cs' := #[u0, u1, u2, c3]) rfl
  exact blk_put h3 3 u3 rfl

theorem woFar8' {w : World} {g k : Nat} {o : Obj} {u0 u1 u2 u3 u4 u5 u6 u7 : Value} (h : w.heap[g]? = some o) (hne : g ≠ k) : ((((((((w.setCell ⟨k, 0, none⟩ u0).setCell ⟨k, 1, none⟩ u1).setCell ⟨k, 2, none⟩ u2).setCell ⟨k, 3, none⟩ u3).setCell ⟨k, 4, none⟩ u4).setCell ⟨k, 5, none⟩ u5).setCell ⟨k, 6, none⟩ u6).setCell ⟨k, 7, none⟩ u7).heap[g]? = some o :=
  (Below.heap_setCell _ _ _ g hne).trans ((Below.heap_setCell _ _ _ g hne).trans ((Below.heap_setCell _ _ _ g hne).trans ((Below.heap_setCell _ _ _ g hne).trans ((Below.heap_setCell _ _ _ g hne).trans ((Below.heap_setCell _ _ _ g hne).trans ((Below.heap_setCell _ _ _ g hne).trans ((Below.heap_setCell _ _ _ g hne).trans h)))))))

theorem woBelow4 {w W : World} {k : Nat} {u0 u1 u2 u3 : Value} (h : Below w.heap.size w W) (hk : w.heap.size ≤ k) : Below w.heap.size w ((((W.setCell ⟨k, 0, none⟩ u0).setCell ⟨k, 1, none⟩ u1).setCell ⟨k, 2, none⟩ u2).setCell ⟨k, 3, none⟩ u3) :=
  below_set (below_set (below_set (below_set h hk) hk) hk) hk

theorem WoK.trans {w w1 w2 : World} {g : Nat} (h : WoK w w1 g) (k : WoK w1 w2 g) : WoK w w2 g := fun b cs t fr ht hb hc => k b cs t fr ht hb (h b cs t fr ht hb hc)

theorem woMin2i (a b : Int) : (if b < a then b else a) = mn a b := rfl


theorem woBelow8 {w W : World} {k : Nat} {u0 u1 u2 u3 u4 u5 u6 u7 : Value} (h : Below w.heap.size w W) (hk : w.heap.size ≤ k) : Below w.heap.size w ((((((((W.setCell ⟨k, 0, none⟩ u0).setCell ⟨k, 1, none⟩ u1).setCell ⟨k, 2, none⟩ u2).setCell ⟨k, 3, none⟩ u3).setCell ⟨k, 4, none⟩ u4).setCell ⟨k, 5, none⟩ u5).setCell ⟨k, 6, none⟩ u6).setCell ⟨k, 7, none⟩ u7) :=
  below_set (below_set (below_set (below_set (below_set (below_set (below_set (below_set h hk) hk) hk) hk) hk) hk) hk) hk

set_option maxHeartbeats 8000000 in
set_option maxRecDepth 100000 in
theorem Without_no (a0_0 : Int) (a0_1 : Int) (a0_2 : Bool) (a0_3 : Bool) (a0_4 : Int) (a0_5 : Int) (a0_6 : Bool) (a0_7 : Bool) (a1_0 : Int) (a1_1 : Int) (a1_2 : Bool) (a1_3 : Bool) (a1_4 : Int) (a1_5 : Int) (a1_6 : Bool) (a1_7 : Bool) (m0 m1 : Int) (m2 m3 : Bool) (m4 m5 : Int) (m6 m7 : Bool) (w : World) (hga : impl_GoodArea.f a0_0 a0_1 a0_2 a0_3 a0_4 a0_5 a0_6 a0_7 = some true) (hgb : impl_GoodArea.f a1_0 a1_1 a1_2 a1_3 a1_4 a1_5 a1_6 a1_7 = some true) (hm : impl_Meet.f 9 a0_0 a0_1 a0_2 a0_3 a0_4 a0_5 a0_6 a0_7 a1_0 a1_1 a1_2 a1_3 a1_4 a1_5 a1_6 a1_7 = some (m0, m1, m2, m3, m4, m5, m6, m7, false))  :
    Calls Try.prog 14 #[.agg #[.int .i64 a0_0, .int .i64 a0_1, .bool a0_2, .bool a0_3, .int .i64 a0_4, .int .i64 a0_5, .bool a0_6, .bool a0_7], .agg #[.int .i64 a1_0, .int .i64 a1_1, .bool a1_2, .bool a1_3, .int .i64 a1_4, .int .i64 a1_5, .bool a1_6, .bool a1_7]] w fun e w' => ∃ v, e = .returned v ∧ Kd.R k33 33 w' w.heap.size (fun _ => True) v [areaV (mn a0_0 a0_4) (mn a0_1 a0_5) (mx a0_0 a0_4) (mx a0_1 a0_5)] ∧ Below w.heap.size w w' := by
  obtain ⟨xr, hxr⟩ : ∃ x, mn a0_0 a0_4 = x := ⟨_, rfl⟩; obtain ⟨xc, hxc⟩ : ∃ x, mn a0_1 a0_5 = x := ⟨_, rfl⟩; obtain ⟨xt, hxt⟩ : ∃ x, mx a0_0 a0_4 = x := ⟨_, rfl⟩; obtain ⟨xu, hxu⟩ : ∃ x, mx a0_1 a0_5 = x := ⟨_, rfl⟩
  obtain ⟨yr, hyr⟩ : ∃ x, mn a1_0 a1_4 = x := ⟨_, rfl⟩; obtain ⟨yc, hyc⟩ : ∃ x, mn a1_1 a1_5 = x := ⟨_, rfl⟩; obtain ⟨yt, hyt⟩ : ∃ x, mx a1_0 a1_4 = x := ⟨_, rfl⟩; obtain ⟨yu, hyu⟩ : ∃ x, mx a1_1 a1_5 = x := ⟨_, rfl⟩
  have hbx : impl_Area_block.f a0_0 a0_1 a0_2 a0_3 a0_4 a0_5 a0_6 a0_7 = some (xr, xc, xt, xu) := by unfold impl_Area_block.f; rw [hxr, hxc, hxt, hxu]
  have hby : impl_Area_block.f a1_0 a1_1 a1_2 a1_3 a1_4 a1_5 a1_6 a1_7 = some (yr, yc, yt, yu) := by unfold impl_Area_block.f; rw [hyr, hyc, hyt, hyu]
  rw [hxr, hxc, hxt, hxu]; clear hxr hxc hxt hxu hyr hyc hyt hyu
  have HGA := Lib.hid hga; have HGB := Lib.hid hgb; have HM := Lib.hid hm; have HBX := Lib.hid hbx; have HBY := Lib.hid hby; clear hga hgb hm hbx hby
  have hb0 : Below w.heap.size w ((w.alloc (.cells #[.int .i64 a0_0, .int .i64 a0_1, .bool a0_2, .bool a0_3, .int .i64 a0_4, .int .i64 a0_5, .bool a0_6, .bool a0_7] 33)).alloc (.cells #[.int .i64 a1_0, .int .i64 a1_1, .bool a1_2, .bool a1_3, .int .i64 a1_4, .int .i64 a1_5, .bool a1_6, .bool a1_7] 33)) := below_alloc (below_alloc (Below.refl _ _) _) _
  have h2_ := blk_alloc (blk_new w (.cells #[.int .i64 a0_0, .int .i64 a0_1, .bool a0_2, .bool a0_3, .int .i64 a0_4, .int .i64 a0_5, .bool a0_6, .bool a0_7] 33)) (.cells #[.int .i64 a1_0, .int .i64 a1_1, .bool a1_2, .bool a1_3, .int .i64 a1_4, .int .i64 a1_5, .bool a1_6, .bool a1_7] 33)
  have h3_ := blk_new (w.alloc (.cells #[.int .i64 a0_0, .int .i64 a0_1, .bool a0_2, .bool a0_3, .int .i64 a0_4, .int .i64 a0_5, .bool a0_6, .bool a0_7] 33)) (.cells #[.int .i64 a1_0, .int .i64 a1_1, .bool a1_2, .bool a1_3, .int .i64 a1_4, .int .i64 a1_5, .bool a1_6, .bool a1_7] 33)
  rw [show (w.alloc (.cells #[.int .i64 a0_0, .int .i64 a0_1, .bool a0_2, .bool a0_3, .int .i64 a0_4, .int .i64 a0_5, .bool a0_6, .bool a0_7] 33)).heap.size = w.heap.size + 1 from Array.size_push _] at h3_
  have y2_0 := blk_cell h2_ 0
  have y2_1 := blk_cell h2_ 1
  have y2_2 := blk_cell h2_ 2
  have y2_3 := blk_cell h2_ 3
  have y2_4 := blk_cell h2_ 4
  have y2_5 := blk_cell h2_ 5
  have y2_6 := blk_cell h2_ 6
  have y2_7 := blk_cell h2_ 7
  simp only [List.getElem?_toArray, List.getElem?_cons_zero, List.getElem?_cons_succ] at y2_0 y2_1 y2_2 y2_3 y2_4 y2_5 y2_6 y2_7
  have lt2 := blk_lt h2_
  have K2 := Lib.hid h2_; clear h2_
  have y3_0 := blk_cell h3_ 0
  have y3_1 := blk_cell h3_ 1
  have y3_2 := blk_cell h3_ 2
  have y3_3 := blk_cell h3_ 3
  have y3_4 := blk_cell h3_ 4
  have y3_5 := blk_cell h3_ 5
  have y3_6 := blk_cell h3_ 6
  have y3_7 := blk_cell h3_ 7
  simp only [List.getElem?_toArray, List.getElem?_cons_zero, List.getElem?_cons_succ] at y3_0 y3_1 y3_2 y3_3 y3_4 y3_5 y3_6 y3_7
  have lt3 := blk_lt h3_
  have K3 := Lib.hid h3_; clear h3_
  have HB := Lib.hid hb0; clear hb0
  go_enter Try.func14, Try.ntmps14
  go_wp2_with fail
  refine (impl_GoodArea.calls a0_0 a0_1 a0_2 a0_3 a0_4 a0_5 a0_6 a0_7 true _ HGA.out).mono ?_; rintro e w1 ⟨rfl, hd⟩
  have h2_ := blk_below K2.out hd
  have h3_ := blk_below K3.out hd
  have HBn := Lib.hid (below_step HB.out hd); clear hd HB; have HB := HBn; clear HBn
  clear lt2 K2 y2_0 y2_1 y2_2 y2_3 y2_4 y2_5 y2_6 y2_7 lt3 K3 y3_0 y3_1 y3_2 y3_3 y3_4 y3_5 y3_6 y3_7
  have lt2 := blk_lt h2_
  have y2_0 := blk_cell h2_ 0
  have y2_1 := blk_cell h2_ 1
  have y2_2 := blk_cell h2_ 2
  have y2_3 := blk_cell h2_ 3
  have y2_4 := blk_cell h2_ 4
  have y2_5 := blk_cell h2_ 5
  have y2_6 := blk_cell h2_ 6
  have y2_7 := blk_cell h2_ 7
  simp only [List.getElem?_toArray, List.getElem?_cons_zero, List.getElem?_cons_succ] at y2_0 y2_1 y2_2 y2_3 y2_4 y2_5 y2_6 y2_7
  have K2 := Lib.hid h2_; clear h2_
  have lt3 := blk_lt h3_
  have y3_0 := blk_cell h3_ 0
  have y3_1 := blk_cell h3_ 1
  have y3_2 := blk_cell h3_ 2
  have y3_3 := blk_cell h3_ 3
  have y3_4 := blk_cell h3_ 4
  have y3_5 := blk_cell h3_ 5
  have y3_6 := blk_cell h3_ 6
  have y3_7 := blk_cell h3_ 7
  simp only [List.getElem?_toArray, List.getElem?_cons_zero, List.getElem?_cons_succ] at y3_0 y3_1 y3_2 y3_3 y3_4 y3_5 y3_6 y3_7
  have K3 := Lib.hid h3_; clear h3_
  go_wp2_with fail
  refine (impl_GoodArea.calls a1_0 a1_1 a1_2 a1_3 a1_4 a1_5 a1_6 a1_7 true _ HGB.out).mono ?_; rintro e w2 ⟨rfl, hd⟩
  have h2_ := blk_below K2.out hd
  have h3_ := blk_below K3.out hd
  have HBn := Lib.hid (below_step HB.out hd); clear hd HB; have HB := HBn; clear HBn
  clear lt2 K2 y2_0 y2_1 y2_2 y2_3 y2_4 y2_5 y2_6 y2_7 lt3 K3 y3_0 y3_1 y3_2 y3_3 y3_4 y3_5 y3_6 y3_7
  have lt2 := blk_lt h2_
  have y2_0 := blk_cell h2_ 0
  have y2_1 := blk_cell h2_ 1
  have y2_2 := blk_cell h2_ 2
  have y2_3 := blk_cell h2_ 3
  have y2_4 := blk_cell h2_ 4
  have y2_5 := blk_cell h2_ 5
  have y2_6 := blk_cell h2_ 6
  have y2_7 := blk_cell h2_ 7
  simp only [List.getElem?_toArray, List.getElem?_cons_zero, List.getElem?_cons_succ] at y2_0 y2_1 y2_2 y2_3 y2_4 y2_5 y2_6 y2_7
  have K2 := Lib.hid h2_; clear h2_
  have lt3 := blk_lt h3_
  have y3_0 := blk_cell h3_ 0
  have y3_1 := blk_cell h3_ 1
  have y3_2 := blk_cell h3_ 2
  have y3_3 := blk_cell h3_ 3
  have y3_4 := blk_cell h3_ 4
  have y3_5 := blk_cell h3_ 5
  have y3_6 := blk_cell h3_ 6
  have y3_7 := blk_cell h3_ 7
  simp only [List.getElem?_toArray, List.getElem?_cons_zero, List.getElem?_cons_succ] at y3_0 y3_1 y3_2 y3_3 y3_4 y3_5 y3_6 y3_7
  have K3 := Lib.hid h3_; clear h3_
  go_wp2_with fail
  refine (impl_Area_block.calls a0_0 a0_1 a0_2 a0_3 a0_4 a0_5 a0_6 a0_7 xr xc xt xu _ HBX.out).mono ?_; rintro e w3 ⟨rfl, hd⟩
  have h2_ := blk_below K2.out hd
  have h3_ := blk_below K3.out hd
  have HBn := Lib.hid (below_step HB.out hd); clear hd HB; have HB := HBn; clear HBn
  clear lt2 K2 y2_0 y2_1 y2_2 y2_3 y2_4 y2_5 y2_6 y2_7 lt3 K3 y3_0 y3_1 y3_2 y3_3 y3_4 y3_5 y3_6 y3_7
  have lt2 := blk_lt h2_
  have y2_0 := blk_cell h2_ 0
  have y2_1 := blk_cell h2_ 1
  have y2_2 := blk_cell h2_ 2
  have y2_3 := blk_cell h2_ 3
  have y2_4 := blk_cell h2_ 4
  have y2_5 := blk_cell h2_ 5
  have y2_6 := blk_cell h2_ 6
  have y2_7 := blk_cell h2_ 7
  simp only [List.getElem?_toArray, List.getElem?_cons_zero, List.getElem?_cons_succ] at y2_0 y2_1 y2_2 y2_3 y2_4 y2_5 y2_6 y2_7
  have K2 := Lib.hid h2_; clear h2_
  have lt3 := blk_lt h3_
  have y3_0 := blk_cell h3_ 0
  have y3_1 := blk_cell h3_ 1
  have y3_2 := blk_cell h3_ 2
  have y3_3 := blk_cell h3_ 3
  have y3_4 := blk_cell h3_ 4
  have y3_5 := blk_cell h3_ 5
  have y3_6 := blk_cell h3_ 6
  have y3_7 := blk_cell h3_ 7
  simp only [List.getElem?_toArray, List.getElem?_cons_zero, List.getElem?_cons_succ] at y3_0 y3_1 y3_2 y3_3 y3_4 y3_5 y3_6 y3_7
  have K3 := Lib.hid h3_; clear h3_
  have g2_ := blk_alloc K2.out (.cells #[.int .i64 xr, .int .i64 xc, .int .i64 xt, .int .i64 xu] 77)
  have w2_0 := blk_cell g2_ 0
  have w2_1 := blk_cell g2_ 1
  have w2_2 := blk_cell g2_ 2
  have w2_3 := blk_cell g2_ 3
  have w2_4 := blk_cell g2_ 4
  have w2_5 := blk_cell g2_ 5
  have w2_6 := blk_cell g2_ 6
  have w2_7 := blk_cell g2_ 7
  simp only [List.getElem?_toArray, List.getElem?_cons_zero, List.getElem?_cons_succ] at w2_0 w2_1 w2_2 w2_3 w2_4 w2_5 w2_6 w2_7
  clear g2_
  have g3_ := blk_alloc K3.out (.cells #[.int .i64 xr, .int .i64 xc, .int .i64 xt, .int .i64 xu] 77)
  have w3_0 := blk_cell g3_ 0
  have w3_1 := blk_cell g3_ 1
  have w3_2 := blk_cell g3_ 2
  have w3_3 := blk_cell g3_ 3
  have w3_4 := blk_cell g3_ 4
  have w3_5 := blk_cell g3_ 5
  have w3_6 := blk_cell g3_ 6
  have w3_7 := blk_cell g3_ 7
  simp only [List.getElem?_toArray, List.getElem?_cons_zero, List.getElem?_cons_succ] at w3_0 w3_1 w3_2 w3_3 w3_4 w3_5 w3_6 w3_7
  clear g3_
  go_wp2_with fail
  refine (impl_Area_block.calls a1_0 a1_1 a1_2 a1_3 a1_4 a1_5 a1_6 a1_7 yr yc yt yu _ HBY.out).mono ?_; rintro e w4 ⟨rfl, hd⟩
  have h2_ := blk_below (blk_alloc K2.out (.cells #[.int .i64 xr, .int .i64 xc, .int .i64 xt, .int .i64 xu] 77)) hd
  have h3_ := blk_below (blk_alloc K3.out (.cells #[.int .i64 xr, .int .i64 xc, .int .i64 xt, .int .i64 xu] 77)) hd
  have h5_ := blk_below (blk_new w3 (.cells #[.int .i64 xr, .int .i64 xc, .int .i64 xt, .int .i64 xu] 77)) hd
  have HBn := Lib.hid (below_step (below_alloc HB.out _) hd); clear hd HB; have HB := HBn; clear HBn
  clear lt2 K2 y2_0 y2_1 y2_2 y2_3 y2_4 y2_5 y2_6 y2_7 lt3 K3 y3_0 y3_1 y3_2 y3_3 y3_4 y3_5 y3_6 y3_7 w2_0 w2_1 w2_2 w2_3 w2_4 w2_5 w2_6 w2_7 w3_0 w3_1 w3_2 w3_3 w3_4 w3_5 w3_6 w3_7
  have lt2 := blk_lt h2_
  have y2_0 := blk_cell h2_ 0
  have y2_1 := blk_cell h2_ 1
  have y2_2 := blk_cell h2_ 2
  have y2_3 := blk_cell h2_ 3
  have y2_4 := blk_cell h2_ 4
  have y2_5 := blk_cell h2_ 5
  have y2_6 := blk_cell h2_ 6
  have y2_7 := blk_cell h2_ 7
  simp only [List.getElem?_toArray, List.getElem?_cons_zero, List.getElem?_cons_succ] at y2_0 y2_1 y2_2 y2_3 y2_4 y2_5 y2_6 y2_7
  have K2 := Lib.hid h2_; clear h2_
  have lt3 := blk_lt h3_
  have y3_0 := blk_cell h3_ 0
  have y3_1 := blk_cell h3_ 1
  have y3_2 := blk_cell h3_ 2
  have y3_3 := blk_cell h3_ 3
  have y3_4 := blk_cell h3_ 4
  have y3_5 := blk_cell h3_ 5
  have y3_6 := blk_cell h3_ 6
  have y3_7 := blk_cell h3_ 7
  simp only [List.getElem?_toArray, List.getElem?_cons_zero, List.getElem?_cons_succ] at y3_0 y3_1 y3_2 y3_3 y3_4 y3_5 y3_6 y3_7
  have K3 := Lib.hid h3_; clear h3_
  have lt5 := blk_lt h5_
  have y5_0 := blk_cell h5_ 0
  have y5_1 := blk_cell h5_ 1
  have y5_2 := blk_cell h5_ 2
  have y5_3 := blk_cell h5_ 3
  simp only [List.getElem?_toArray, List.getElem?_cons_zero, List.getElem?_cons_succ] at y5_0 y5_1 y5_2 y5_3
  have K5 := Lib.hid h5_; clear h5_
  have g2_ := blk_alloc K2.out (.cells #[.int .i64 yr, .int .i64 yc, .int .i64 yt, .int .i64 yu] 77)
  have w2_0 := blk_cell g2_ 0
  have w2_1 := blk_cell g2_ 1
  have w2_2 := blk_cell g2_ 2
  have w2_3 := blk_cell g2_ 3
  have w2_4 := blk_cell g2_ 4
  have w2_5 := blk_cell g2_ 5
  have w2_6 := blk_cell g2_ 6
  have w2_7 := blk_cell g2_ 7
  simp only [List.getElem?_toArray, List.getElem?_cons_zero, List.getElem?_cons_succ] at w2_0 w2_1 w2_2 w2_3 w2_4 w2_5 w2_6 w2_7
  clear g2_
  have g3_ := blk_alloc K3.out (.cells #[.int .i64 yr, .int .i64 yc, .int .i64 yt, .int .i64 yu] 77)
  have w3_0 := blk_cell g3_ 0
  have w3_1 := blk_cell g3_ 1
  have w3_2 := blk_cell g3_ 2
  have w3_3 := blk_cell g3_ 3
  have w3_4 := blk_cell g3_ 4
  have w3_5 := blk_cell g3_ 5
  have w3_6 := blk_cell g3_ 6
  have w3_7 := blk_cell g3_ 7
  simp only [List.getElem?_toArray, List.getElem?_cons_zero, List.getElem?_cons_succ] at w3_0 w3_1 w3_2 w3_3 w3_4 w3_5 w3_6 w3_7
  clear g3_
  have g5_ := blk_alloc K5.out (.cells #[.int .i64 yr, .int .i64 yc, .int .i64 yt, .int .i64 yu] 77)
  clear g5_
  go_wp2_with fail
  refine (impl_Meet.calls 9 a0_0 a0_1 a0_2 a0_3 a0_4 a0_5 a0_6 a0_7 a1_0 a1_1 a1_2 a1_3 a1_4 a1_5 a1_6 a1_7 m0 m1 m2 m3 m4 m5 m6 m7 false _ HM.out).mono ?_; rintro e w5 ⟨rfl, hd⟩
  have h5_ := blk_below (blk_alloc K5.out (.cells #[.int .i64 yr, .int .i64 yc, .int .i64 yt, .int .i64 yu] 77)) hd
  have h6_ := blk_below (blk_new w4 (.cells #[.int .i64 yr, .int .i64 yc, .int .i64 yt, .int .i64 yu] 77)) hd
  have HBn := Lib.hid (below_step (below_alloc HB.out _) hd); clear hd HB; have HB := HBn; clear HBn
  clear lt5 K5 y5_0 y5_1 y5_2 y5_3 lt2 K2 y2_0 y2_1 y2_2 y2_3 y2_4 y2_5 y2_6 y2_7 lt3 K3 y3_0 y3_1 y3_2 y3_3 y3_4 y3_5 y3_6 y3_7 w2_0 w2_1 w2_2 w2_3 w2_4 w2_5 w2_6 w2_7 w3_0 w3_1 w3_2 w3_3 w3_4 w3_5 w3_6 w3_7
  have lt5 := blk_lt h5_
  have y5_0 := blk_cell h5_ 0
  have y5_1 := blk_cell h5_ 1
  have y5_2 := blk_cell h5_ 2
  have y5_3 := blk_cell h5_ 3
  simp only [List.getElem?_toArray, List.getElem?_cons_zero, List.getElem?_cons_succ] at y5_0 y5_1 y5_2 y5_3
  have K5 := Lib.hid h5_; clear h5_
  have lt6 := blk_lt h6_
  have y6_0 := blk_cell h6_ 0
  have y6_1 := blk_cell h6_ 1
  have y6_2 := blk_cell h6_ 2
  have y6_3 := blk_cell h6_ 3
  simp only [List.getElem?_toArray, List.getElem?_cons_zero, List.getElem?_cons_succ] at y6_0 y6_1 y6_2 y6_3
  have K6 := Lib.hid h6_; clear h6_
  have g5_ := blk_alloc K5.out (.cells #[.int .i64 m0, .int .i64 m1, .bool m2, .bool m3, .int .i64 m4, .int .i64 m5, .bool m6, .bool m7] 33)
  have w5_0 := blk_cell g5_ 0
  have w5_1 := blk_cell g5_ 1
  have w5_2 := blk_cell g5_ 2
  have w5_3 := blk_cell g5_ 3
  simp only [List.getElem?_toArray, List.getElem?_cons_zero, List.getElem?_cons_succ] at w5_0 w5_1 w5_2 w5_3
  clear g5_
  have g6_ := blk_alloc K6.out (.cells #[.int .i64 m0, .int .i64 m1, .bool m2, .bool m3, .int .i64 m4, .int .i64 m5, .bool m6, .bool m7] 33)
  have w6_0 := blk_cell g6_ 0
  have w6_1 := blk_cell g6_ 1
  have w6_2 := blk_cell g6_ 2
  have w6_3 := blk_cell g6_ 3
  simp only [List.getElem?_toArray, List.getElem?_cons_zero, List.getElem?_cons_succ] at w6_0 w6_1 w6_2 w6_3
  clear g6_
  go_wp2_with fail
  refine (impl_block_area.calls xr xc xt xu xr xc false false xt xu false false _ rfl).mono ?_; rintro e w6 ⟨rfl, hd⟩
  have HB6 := Lib.hid (below_step (below_alloc HB.out _) hd); clear hd HB
  go_wp2_with ((with_reducible refine gate_dst (N := 35) rfl ?_); refine Kd.R_lit k33 _ 33 ?hg (N := 35) ?hd (xs := ([areaV xr xc xt xu] : List S33)) (inner := [.int .i64 xr, .int .i64 xc, .bool false, .bool false, .int .i64 xt, .int .i64 xu, .bool false, .bool false]) (ok := fun _ => True) (okp := fun _ => True) ?hr ?hp (fun _ hk => hk) trivial (Below.refl _ _) (Nat.le_refl _) (by simp) ?_; (case hd => rfl); (case hg => rfl); (case hr => first | (go_simp; done) | (go_simp; rfl)); (case hp => exact (Reps.c8 (show Kd.M k33 _ _ _ (areaV xr xc xt xu) [.int .i64 xr, .int .i64 xc, .bool false, .bool false, .int .i64 xt, .int .i64 xu, .bool false, .bool false] from k33_mkM _ _ _ (areaV xr xc xt xu)) (Reps.none _ _))); intro v7 w7 ho hb hg_ hn_; have HO7 := Lib.hid (Kd.R_lower ho HB6.out.size); have HB7 := Lib.hid (below_step HB6.out hb); clear ho hb hg_ hn_)
  go_ret
  exact ⟨_, rfl, HO7.out, HB7.out⟩

set_option maxHeartbeats 8000000 in
set_option maxRecDepth 100000 in
theorem Without_ok (a0_0 : Int) (a0_1 : Int) (a0_2 : Bool) (a0_3 : Bool) (a0_4 : Int) (a0_5 : Int) (a0_6 : Bool) (a0_7 : Bool) (a1_0 : Int) (a1_1 : Int) (a1_2 : Bool) (a1_3 : Bool) (a1_4 : Int) (a1_5 : Int) (a1_6 : Bool) (a1_7 : Bool) (m0 m1 : Int) (m2 m3 : Bool) (m4 m5 : Int) (m6 m7 : Bool) (w : World) (hga : impl_GoodArea.f a0_0 a0_1 a0_2 a0_3 a0_4 a0_5 a0_6 a0_7 = some true) (hgb : impl_GoodArea.f a1_0 a1_1 a1_2 a1_3 a1_4 a1_5 a1_6 a1_7 = some true) (hm : impl_Meet.f 9 a0_0 a0_1 a0_2 a0_3 a0_4 a0_5 a0_6 a0_7 a1_0 a1_1 a1_2 a1_3 a1_4 a1_5 a1_6 a1_7 = some (m0, m1, m2, m3, m4, m5, m6, m7, true))  :
    Calls Try.prog 14 #[.agg #[.int .i64 a0_0, .int .i64 a0_1, .bool a0_2, .bool a0_3, .int .i64 a0_4, .int .i64 a0_5, .bool a0_6, .bool a0_7], .agg #[.int .i64 a1_0, .int .i64 a1_1, .bool a1_2, .bool a1_3, .int .i64 a1_4, .int .i64 a1_5, .bool a1_6, .bool a1_7]] w fun e w' => ∃ v, e = .returned v ∧ Kd.R k33 33 w' w.heap.size (fun _ => True) v (piecesV (mn a0_0 a0_4) (mn a0_1 a0_5) (mx a0_0 a0_4) (mx a0_1 a0_5) (mn a1_0 a1_4) (mn a1_1 a1_5) (mx a1_0 a1_4) (mx a1_1 a1_5)) ∧ Below w.heap.size w w' := by
  obtain ⟨xr, hxr⟩ : ∃ x, mn a0_0 a0_4 = x := ⟨_, rfl⟩; obtain ⟨xc, hxc⟩ : ∃ x, mn a0_1 a0_5 = x := ⟨_, rfl⟩; obtain ⟨xt, hxt⟩ : ∃ x, mx a0_0 a0_4 = x := ⟨_, rfl⟩; obtain ⟨xu, hxu⟩ : ∃ x, mx a0_1 a0_5 = x := ⟨_, rfl⟩
  obtain ⟨yr, hyr⟩ : ∃ x, mn a1_0 a1_4 = x := ⟨_, rfl⟩; obtain ⟨yc, hyc⟩ : ∃ x, mn a1_1 a1_5 = x := ⟨_, rfl⟩; obtain ⟨yt, hyt⟩ : ∃ x, mx a1_0 a1_4 = x := ⟨_, rfl⟩; obtain ⟨yu, hyu⟩ : ∃ x, mx a1_1 a1_5 = x := ⟨_, rfl⟩
  have hbx : impl_Area_block.f a0_0 a0_1 a0_2 a0_3 a0_4 a0_5 a0_6 a0_7 = some (xr, xc, xt, xu) := by unfold impl_Area_block.f; rw [hxr, hxc, hxt, hxu]
  have hby : impl_Area_block.f a1_0 a1_1 a1_2 a1_3 a1_4 a1_5 a1_6 a1_7 = some (yr, yc, yt, yu) := by unfold impl_Area_block.f; rw [hyr, hyc, hyt, hyu]
  rw [hxr, hxc, hxt, hxu, hyr, hyc, hyt, hyu]; clear hxr hxc hxt hxu hyr hyc hyt hyu
  obtain ⟨p1, hp1⟩ : ∃ p, mn xt (wrap64 (yr - 1)) = p := ⟨_, rfl⟩; obtain ⟨p2, hp2⟩ : ∃ p, mx xr (wrap64 (yt + 1)) = p := ⟨_, rfl⟩; obtain ⟨pt, hpt⟩ : ∃ p, mx xr yr = p := ⟨_, rfl⟩; obtain ⟨pl, hpl⟩ : ∃ p, mn xt yt = p := ⟨_, rfl⟩; obtain ⟨p3, hp3⟩ : ∃ p, mn xu (wrap64 (yc - 1)) = p := ⟨_, rfl⟩; obtain ⟨p4, hp4⟩ : ∃ p, mx xc (wrap64 (yu + 1)) = p := ⟨_, rfl⟩
  have hpv : piecesV xr xc xt xu yr yc yt yu = pieceV xr xc p1 xu ++ pieceV p2 xc xt xu ++ pieceV pt xc pl p3 ++ pieceV pt p4 pl xu := by unfold piecesV; rw [hp1, hp2, hpt, hpl, hp3, hp4]
  rw [hpv]; clear hpv
  unfold mn at hp1 hpl hp3; unfold mx at hp2 hpt hp4
  have HGA := Lib.hid hga; have HGB := Lib.hid hgb; have HM := Lib.hid hm; have HBX := Lib.hid hbx; have HBY := Lib.hid hby; clear hga hgb hm hbx hby
  have hb0 : Below w.heap.size w ((w.alloc (.cells #[.int .i64 a0_0, .int .i64 a0_1, .bool a0_2, .bool a0_3, .int .i64 a0_4, .int .i64 a0_5, .bool a0_6, .bool a0_7] 33)).alloc (.cells #[.int .i64 a1_0, .int .i64 a1_1, .bool a1_2, .bool a1_3, .int .i64 a1_4, .int .i64 a1_5, .bool a1_6, .bool a1_7] 33)) := below_alloc (below_alloc (Below.refl _ _) _) _
  have h2_ := blk_alloc (blk_new w (.cells #[.int .i64 a0_0, .int .i64 a0_1, .bool a0_2, .bool a0_3, .int .i64 a0_4, .int .i64 a0_5, .bool a0_6, .bool a0_7] 33)) (.cells #[.int .i64 a1_0, .int .i64 a1_1, .bool a1_2, .bool a1_3, .int .i64 a1_4, .int .i64 a1_5, .bool a1_6, .bool a1_7] 33)
  have h3_ := blk_new (w.alloc (.cells #[.int .i64 a0_0, .int .i64 a0_1, .bool a0_2, .bool a0_3, .int .i64 a0_4, .int .i64 a0_5, .bool a0_6, .bool a0_7] 33)) (.cells #[.int .i64 a1_0, .int .i64 a1_1, .bool a1_2, .bool a1_3, .int .i64 a1_4, .int .i64 a1_5, .bool a1_6, .bool a1_7] 33)
  rw [show (w.alloc (.cells #[.int .i64 a0_0, .int .i64 a0_1, .bool a0_2, .bool a0_3, .int .i64 a0_4, .int .i64 a0_5, .bool a0_6, .bool a0_7] 33)).heap.size = w.heap.size + 1 from Array.size_push _] at h3_
  have y2_0 := blk_cell h2_ 0
  have y2_1 := blk_cell h2_ 1
  have y2_2 := blk_cell h2_ 2
  have y2_3 := blk_cell h2_ 3
  have y2_4 := blk_cell h2_ 4
  have y2_5 := blk_cell h2_ 5
  have y2_6 := blk_cell h2_ 6
  have y2_7 := blk_cell h2_ 7
  simp only [List.getElem?_toArray, List.getElem?_cons_zero, List.getElem?_cons_succ] at y2_0 y2_1 y2_2 y2_3 y2_4 y2_5 y2_6 y2_7
  have lt2 := blk_lt h2_
  have K2 := Lib.hid h2_; clear h2_
  have y3_0 := blk_cell h3_ 0
  have y3_1 := blk_cell h3_ 1
  have y3_2 := blk_cell h3_ 2
  have y3_3 := blk_cell h3_ 3
  have y3_4 := blk_cell h3_ 4
  have y3_5 := blk_cell h3_ 5
  have y3_6 := blk_cell h3_ 6
  have y3_7 := blk_cell h3_ 7
  simp only [List.getElem?_toArray, List.getElem?_cons_zero, List.getElem?_cons_succ] at y3_0 y3_1 y3_2 y3_3 y3_4 y3_5 y3_6 y3_7
  have lt3 := blk_lt h3_
  have K3 := Lib.hid h3_; clear h3_
  have HB := Lib.hid hb0; clear hb0
  go_enter Try.func14, Try.ntmps14
  go_wp2_with fail
  refine (impl_GoodArea.calls a0_0 a0_1 a0_2 a0_3 a0_4 a0_5 a0_6 a0_7 true _ HGA.out).mono ?_; rintro e w1 ⟨rfl, hd⟩
  have h2_ := blk_below K2.out hd
  have h3_ := blk_below K3.out hd
  have HBn := Lib.hid (below_step HB.out hd); clear hd HB; have HB := HBn; clear HBn
  clear lt2 K2 y2_0 y2_1 y2_2 y2_3 y2_4 y2_5 y2_6 y2_7 lt3 K3 y3_0 y3_1 y3_2 y3_3 y3_4 y3_5 y3_6 y3_7
  have lt2 := blk_lt h2_
  have y2_0 := blk_cell h2_ 0
  have y2_1 := blk_cell h2_ 1
  have y2_2 := blk_cell h2_ 2
  have y2_3 := blk_cell h2_ 3
  have y2_4 := blk_cell h2_ 4
  have y2_5 := blk_cell h2_ 5
  have y2_6 := blk_cell h2_ 6
  have y2_7 := blk_cell h2_ 7
  simp only [List.getElem?_toArray, List.getElem?_cons_zero, List.getElem?_cons_succ] at y2_0 y2_1 y2_2 y2_3 y2_4 y2_5 y2_6 y2_7
  have K2 := Lib.hid h2_; clear h2_
  have lt3 := blk_lt h3_
  have y3_0 := blk_cell h3_ 0
  have y3_1 := blk_cell h3_ 1
  have y3_2 := blk_cell h3_ 2
  have y3_3 := blk_cell h3_ 3
  have y3_4 := blk_cell h3_ 4
  have y3_5 := blk_cell h3_ 5
  have y3_6 := blk_cell h3_ 6
  have y3_7 := blk_cell h3_ 7
  simp only [List.getElem?_toArray, List.getElem?_cons_zero, List.getElem?_cons_succ] at y3_0 y3_1 y3_2 y3_3 y3_4 y3_5 y3_6 y3_7
  have K3 := Lib.hid h3_; clear h3_
  go_wp2_with fail
  refine (impl_GoodArea.calls a1_0 a1_1 a1_2 a1_3 a1_4 a1_5 a1_6 a1_7 true _ HGB.out).mono ?_; rintro e w2 ⟨rfl, hd⟩
  have h2_ := blk_below K2.out hd
  have h3_ := blk_below K3.out hd
  have HBn := Lib.hid (below_step HB.out hd); clear hd HB; have HB := HBn; clear HBn
  clear lt2 K2 y2_0 y2_1 y2_2 y2_3 y2_4 y2_5 y2_6 y2_7 lt3 K3 y3_0 y3_1 y3_2 y3_3 y3_4 y3_5 y3_6 y3_7
  have lt2 := blk_lt h2_
  have y2_0 := blk_cell h2_ 0
  have y2_1 := blk_cell h2_ 1
  have y2_2 := blk_cell h2_ 2
  have y2_3 := blk_cell h2_ 3
  have y2_4 := blk_cell h2_ 4
  have y2_5 := blk_cell h2_ 5
  have y2_6 := blk_cell h2_ 6
  have y2_7 := blk_cell h2_ 7
  simp only [List.getElem?_toArray, List.getElem?_cons_zero, List.getElem?_cons_succ] at y2_0 y2_1 y2_2 y2_3 y2_4 y2_5 y2_6 y2_7
  have K2 := Lib.hid h2_; clear h2_
  have lt3 := blk_lt h3_
  have y3_0 := blk_cell h3_ 0
  have y3_1 := blk_cell h3_ 1
  have y3_2 := blk_cell h3_ 2
  have y3_3 := blk_cell h3_ 3
  have y3_4 := blk_cell h3_ 4
  have y3_5 := blk_cell h3_ 5
  have y3_6 := blk_cell h3_ 6
  have y3_7 := blk_cell h3_ 7
  simp only [List.getElem?_toArray, List.getElem?_cons_zero, List.getElem?_cons_succ] at y3_0 y3_1 y3_2 y3_3 y3_4 y3_5 y3_6 y3_7
  have K3 := Lib.hid h3_; clear h3_
  go_wp2_with fail
  refine (impl_Area_block.calls a0_0 a0_1 a0_2 a0_3 a0_4 a0_5 a0_6 a0_7 xr xc xt xu _ HBX.out).mono ?_; rintro e w3 ⟨rfl, hd⟩
  have h2_ := blk_below K2.out hd
  have h3_ := blk_below K3.out hd
  have HBn := Lib.hid (below_step HB.out hd); clear hd HB; have HB := HBn; clear HBn
  clear lt2 K2 y2_0 y2_1 y2_2 y2_3 y2_4 y2_5 y2_6 y2_7 lt3 K3 y3_0 y3_1 y3_2 y3_3 y3_4 y3_5 y3_6 y3_7
  have lt2 := blk_lt h2_
  have y2_0 := blk_cell h2_ 0
  have y2_1 := blk_cell h2_ 1
  have y2_2 := blk_cell h2_ 2
  have y2_3 := blk_cell h2_ 3
  have y2_4 := blk_cell h2_ 4
  have y2_5 := blk_cell h2_ 5
  have y2_6 := blk_cell h2_ 6
  have y2_7 := blk_cell h2_ 7
  simp only [List.getElem?_toArray, List.getElem?_cons_zero, List.getElem?_cons_succ] at y2_0 y2_1 y2_2 y2_3 y2_4 y2_5 y2_6 y2_7
  have K2 := Lib.hid h2_; clear h2_
  have lt3 := blk_lt h3_
  have y3_0 := blk_cell h3_ 0
  have y3_1 := blk_cell h3_ 1
  have y3_2 := blk_cell h3_ 2
  have y3_3 := blk_cell h3_ 3
  have y3_4 := blk_cell h3_ 4
  have y3_5 := blk_cell h3_ 5
  have y3_6 := blk_cell h3_ 6
  have y3_7 := blk_cell h3_ 7
  simp only [List.getElem?_toArray, List.getElem?_cons_zero, List.getElem?_cons_succ] at y3_0 y3_1 y3_2 y3_3 y3_4 y3_5 y3_6 y3_7
  have K3 := Lib.hid h3_; clear h3_
  have g2_ := blk_alloc K2.out (.cells #[.int .i64 xr, .int .i64 xc, .int .i64 xt, .int .i64 xu] 77)
  have w2_0 := blk_cell g2_ 0
  have w2_1 := blk_cell g2_ 1
  have w2_2 := blk_cell g2_ 2
  have w2_3 := blk_cell g2_ 3
  have w2_4 := blk_cell g2_ 4
  have w2_5 := blk_cell g2_ 5
  have w2_6 := blk_cell g2_ 6
  have w2_7 := blk_cell g2_ 7
  simp only [List.getElem?_toArray, List.getElem?_cons_zero, List.getElem?_cons_succ] at w2_0 w2_1 w2_2 w2_3 w2_4 w2_5 w2_6 w2_7
  clear g2_
  have g3_ := blk_alloc K3.out (.cells #[.int .i64 xr, .int .i64 xc, .int .i64 xt, .int .i64 xu] 77)
  have w3_0 := blk_cell g3_ 0
  have w3_1 := blk_cell g3_ 1
  have w3_2 := blk_cell g3_ 2
  have w3_3 := blk_cell g3_ 3
  have w3_4 := blk_cell g3_ 4
  have w3_5 := blk_cell g3_ 5
  have w3_6 := blk_cell g3_ 6
  have w3_7 := blk_cell g3_ 7
  simp only [List.getElem?_toArray, List.getElem?_cons_zero, List.getElem?_cons_succ] at w3_0 w3_1 w3_2 w3_3 w3_4 w3_5 w3_6 w3_7
  clear g3_
  go_wp2_with fail
  refine (impl_Area_block.calls a1_0 a1_1 a1_2 a1_3 a1_4 a1_5 a1_6 a1_7 yr yc yt yu _ HBY.out).mono ?_; rintro e w4 ⟨rfl, hd⟩
  have h2_ := blk_below (blk_alloc K2.out (.cells #[.int .i64 xr, .int .i64 xc, .int .i64 xt, .int .i64 xu] 77)) hd
  have h3_ := blk_below (blk_alloc K3.out (.cells #[.int .i64 xr, .int .i64 xc, .int .i64 xt, .int .i64 xu] 77)) hd
  have h5_ := blk_below (blk_new w3 (.cells #[.int .i64 xr, .int .i64 xc, .int .i64 xt, .int .i64 xu] 77)) hd
  have HBn := Lib.hid (below_step (below_alloc HB.out _) hd); clear hd HB; have HB := HBn; clear HBn
  clear lt2 K2 y2_0 y2_1 y2_2 y2_3 y2_4 y2_5 y2_6 y2_7 lt3 K3 y3_0 y3_1 y3_2 y3_3 y3_4 y3_5 y3_6 y3_7 w2_0 w2_1 w2_2 w2_3 w2_4 w2_5 w2_6 w2_7 w3_0 w3_1 w3_2 w3_3 w3_4 w3_5 w3_6 w3_7
  have lt2 := blk_lt h2_
  have y2_0 := blk_cell h2_ 0
  have y2_1 := blk_cell h2_ 1
  have y2_2 := blk_cell h2_ 2
  have y2_3 := blk_cell h2_ 3
  have y2_4 := blk_cell h2_ 4
  have y2_5 := blk_cell h2_ 5
  have y2_6 := blk_cell h2_ 6
  have y2_7 := blk_cell h2_ 7
  simp only [List.getElem?_toArray, List.getElem?_cons_zero, List.getElem?_cons_succ] at y2_0 y2_1 y2_2 y2_3 y2_4 y2_5 y2_6 y2_7
  have K2 := Lib.hid h2_; clear h2_
  have lt3 := blk_lt h3_
  have y3_0 := blk_cell h3_ 0
  have y3_1 := blk_cell h3_ 1
  have y3_2 := blk_cell h3_ 2
  have y3_3 := blk_cell h3_ 3
  have y3_4 := blk_cell h3_ 4
  have y3_5 := blk_cell h3_ 5
  have y3_6 := blk_cell h3_ 6
  have y3_7 := blk_cell h3_ 7
  simp only [List.getElem?_toArray, List.getElem?_cons_zero, List.getElem?_cons_succ] at y3_0 y3_1 y3_2 y3_3 y3_4 y3_5 y3_6 y3_7
  have K3 := Lib.hid h3_; clear h3_
  have lt5 := blk_lt h5_
  have y5_0 := blk_cell h5_ 0
  have y5_1 := blk_cell h5_ 1
  have y5_2 := blk_cell h5_ 2
  have y5_3 := blk_cell h5_ 3
  simp only [List.getElem?_toArray, List.getElem?_cons_zero, List.getElem?_cons_succ] at y5_0 y5_1 y5_2 y5_3
  have K5 := Lib.hid h5_; clear h5_
  have g2_ := blk_alloc K2.out (.cells #[.int .i64 yr, .int .i64 yc, .int .i64 yt, .int .i64 yu] 77)
  have w2_0 := blk_cell g2_ 0
  have w2_1 := blk_cell g2_ 1
  have w2_2 := blk_cell g2_ 2
  have w2_3 := blk_cell g2_ 3
  have w2_4 := blk_cell g2_ 4
  have w2_5 := blk_cell g2_ 5
  have w2_6 := blk_cell g2_ 6
  have w2_7 := blk_cell g2_ 7
  simp only [List.getElem?_toArray, List.getElem?_cons_zero, List.getElem?_cons_succ] at w2_0 w2_1 w2_2 w2_3 w2_4 w2_5 w2_6 w2_7
  clear g2_
  have g3_ := blk_alloc K3.out (.cells #[.int .i64 yr, .int .i64 yc, .int .i64 yt, .int .i64 yu] 77)
  have w3_0 := blk_cell g3_ 0
  have w3_1 := blk_cell g3_ 1
  have w3_2 := blk_cell g3_ 2
  have w3_3 := blk_cell g3_ 3
  have w3_4 := blk_cell g3_ 4
  have w3_5 := blk_cell g3_ 5
  have w3_6 := blk_cell g3_ 6
  have w3_7 := blk_cell g3_ 7
  simp only [List.getElem?_toArray, List.getElem?_cons_zero, List.getElem?_cons_succ] at w3_0 w3_1 w3_2 w3_3 w3_4 w3_5 w3_6 w3_7
  clear g3_
  have g5_ := blk_alloc K5.out (.cells #[.int .i64 yr, .int .i64 yc, .int .i64 yt, .int .i64 yu] 77)
  clear g5_
  go_wp2_with fail
  refine (impl_Meet.calls 9 a0_0 a0_1 a0_2 a0_3 a0_4 a0_5 a0_6 a0_7 a1_0 a1_1 a1_2 a1_3 a1_4 a1_5 a1_6 a1_7 m0 m1 m2 m3 m4 m5 m6 m7 true _ HM.out).mono ?_; rintro e w5 ⟨rfl, hd⟩
  have h5_ := blk_below (blk_alloc K5.out (.cells #[.int .i64 yr, .int .i64 yc, .int .i64 yt, .int .i64 yu] 77)) hd
  have h6_ := blk_below (blk_new w4 (.cells #[.int .i64 yr, .int .i64 yc, .int .i64 yt, .int .i64 yu] 77)) hd
  have HBn := Lib.hid (below_step (below_alloc HB.out _) hd); clear hd HB; have HB := HBn; clear HBn
  clear lt5 K5 y5_0 y5_1 y5_2 y5_3 lt2 K2 y2_0 y2_1 y2_2 y2_3 y2_4 y2_5 y2_6 y2_7 lt3 K3 y3_0 y3_1 y3_2 y3_3 y3_4 y3_5 y3_6 y3_7 w2_0 w2_1 w2_2 w2_3 w2_4 w2_5 w2_6 w2_7 w3_0 w3_1 w3_2 w3_3 w3_4 w3_5 w3_6 w3_7
  have lt5 := blk_lt h5_
  have y5_0 := blk_cell h5_ 0
  have y5_1 := blk_cell h5_ 1
  have y5_2 := blk_cell h5_ 2
  have y5_3 := blk_cell h5_ 3
  simp only [List.getElem?_toArray, List.getElem?_cons_zero, List.getElem?_cons_succ] at y5_0 y5_1 y5_2 y5_3
  have K5 := Lib.hid h5_; clear h5_
  have lt6 := blk_lt h6_
  have y6_0 := blk_cell h6_ 0
  have y6_1 := blk_cell h6_ 1
  have y6_2 := blk_cell h6_ 2
  have y6_3 := blk_cell h6_ 3
  simp only [List.getElem?_toArray, List.getElem?_cons_zero, List.getElem?_cons_succ] at y6_0 y6_1 y6_2 y6_3
  have K6 := Lib.hid h6_; clear h6_
  have g5_ := blk_alloc K5.out (.cells #[.int .i64 m0, .int .i64 m1, .bool m2, .bool m3, .int .i64 m4, .int .i64 m5, .bool m6, .bool m7] 33)
  have w5_0 := blk_cell g5_ 0
  have w5_1 := blk_cell g5_ 1
  have w5_2 := blk_cell g5_ 2
  have w5_3 := blk_cell g5_ 3
  simp only [List.getElem?_toArray, List.getElem?_cons_zero, List.getElem?_cons_succ] at w5_0 w5_1 w5_2 w5_3
  clear g5_
  have g6_ := blk_alloc K6.out (.cells #[.int .i64 m0, .int .i64 m1, .bool m2, .bool m3, .int .i64 m4, .int .i64 m5, .bool m6, .bool m7] 33)
  have w6_0 := blk_cell g6_ 0
  have w6_1 := blk_cell g6_ 1
  have w6_2 := blk_cell g6_ 2
  have w6_3 := blk_cell g6_ 3
  simp only [List.getElem?_toArray, List.getElem?_cons_zero, List.getElem?_cons_succ] at w6_0 w6_1 w6_2 w6_3
  clear g6_
  go_wp2_with ((with_reducible refine gate_dst (N := 36) rfl ?_); refine Kd.R_lit k33 _ 33 ?hg (N := 36) ?hd (xs := ([] : List S33)) (inner := []) (ok := fun _ => True) (okp := fun _ => True) ?hr ?hp (fun _ hk => hk) trivial (Below.refl _ _) (Nat.le_refl _) (by simp) ?_; (case hd => rfl); (case hg => rfl); (case hr => first | (go_simp; done) | (go_simp; rfl)); (case hp => exact (Reps.none _ _)); intro v7 w7 ho hb hg_ hn_; obtain ⟨A7, c7, rfl⟩ := Kd.R_slice ho; have HO := Lib.hid (Kd.R_lower ho (below_alloc HB.out _).size); have h5_ := blk_below (blk_alloc K5.out _) hb; have h6_ := blk_below (blk_alloc K6.out _) hb; have HB7 := Lib.hid (below_step (below_alloc HB.out _) hb); clear ho hb hg_ hn_; have g_ := blk_alloc h5_ (.cells #[.slice A7 0 c7] 38); have w5_0 := blk_cell g_ 0; have w5_1 := blk_cell g_ 1; have w5_2 := blk_cell g_ 2; have w5_3 := blk_cell g_ 3; simp only [List.getElem?_toArray, List.getElem?_cons_zero, List.getElem?_cons_succ] at w5_0 w5_1 w5_2 w5_3; clear g_; have g_ := blk_alloc h6_ (.cells #[.slice A7 0 c7] 38); have w6_0 := blk_cell g_ 0; have w6_1 := blk_cell g_ 1; have w6_2 := blk_cell g_ 2; have w6_3 := blk_cell g_ 3; simp only [List.getElem?_toArray, List.getElem?_cons_zero, List.getElem?_cons_succ] at w6_0 w6_1 w6_2 w6_3; clear g_; have K5n := Lib.hid h5_; have K6n := Lib.hid h6_; clear h5_ h6_)
  have hne5 : w3.heap.size ≠ w7.heap.size := Nat.ne_of_lt (blk_lt K5n.out)
  have hne6 : w4.heap.size ≠ w7.heap.size := Nat.ne_of_lt (blk_lt K6n.out)
  have hgb : w.heap.size ≤ w7.heap.size := HB7.out.size
  have L5 := Lib.hid (blk_alloc K5n.out (.cells #[.slice A7 0 c7] 38)); have L6 := Lib.hid (blk_alloc K6n.out (.cells #[.slice A7 0 c7] 38)); have LG := Lib.hid (blk_new w7 (.cells #[.slice A7 0 c7] 38))
  have LR : Hid (Kd.R k33 33 (w7.alloc (.cells #[.slice A7 0 c7] 38)) w.heap.size (fun _ => True) (.slice A7 0 c7) []) := Lib.hid (Kd.R_alloc HO.out (.cells #[.slice A7 0 c7] 38)); have LB := Lib.hid (below_alloc HB7.out (.cells #[.slice A7 0 c7] 38))
  obtain ⟨b0, hb0⟩ : ∃ b : Bool, decide (xr ≤ p1 ∧ xc ≤ xu) = b := ⟨_, rfl⟩
  refine (impl_blockOf.calls xr xc p1 xu xr xc p1 xu b0 _ (blockOf_is _ _ _ _ _ hb0)).mono ?_; rintro e wa0 ⟨rfl, hd⟩
  have M5 := blk_below L5.out hd; have M6 := blk_below L6.out hd; have MG := blk_below LG.out hd; have MR := Kd.R_below LR.out hd; have MB := below_step LB.out hd; clear L5 L6 LG LR LB hd
  have N5 := Lib.hid M5; have N6 := Lib.hid M6; have NG := Lib.hid MG; have NR := Lib.hid MR; have NB := Lib.hid MB; clear M5 M6 MG MR MB
  go_wp2_with fail
  refine (Without_add xr xc p1 xu b0 w7.heap.size _ _ w wa0 NR.out (by simp; done) NB.out NG.out hgb).mono ?_; rintro e wv0 ⟨rfl, v0, hg_, hr_, hb_, hw_⟩
  obtain ⟨A0_, c0_, rfl⟩ := Kd.R_slice hr_
  have h5_ := hw_ _ _ _ _ (by decide) hne5 N5.out; have h6_ := hw_ _ _ _ _ (by decide) hne6 N6.out
  rw [pieceV_is xr xc p1 xu b0 hb0] at hr_ hg_
  have hlen1 : ([] ++ pieceV xr xc p1 xu).length ≤ 1 := pieceV_len _ _ _ _ _ 0 (Nat.le_refl 0)
  clear N5 N6 NG NR NB hw_
  have w5_0 := blk_cell h5_ 0; have w5_1 := blk_cell h5_ 1; have w5_2 := blk_cell h5_ 2; have w5_3 := blk_cell h5_ 3
  simp only [List.getElem?_toArray, List.getElem?_cons_zero, List.getElem?_cons_succ] at w5_0 w5_1 w5_2 w5_3
  have w6_0 := blk_cell h6_ 0; have w6_1 := blk_cell h6_ 1; have w6_2 := blk_cell h6_ 2; have w6_3 := blk_cell h6_ 3
  simp only [List.getElem?_toArray, List.getElem?_cons_zero, List.getElem?_cons_succ] at w6_0 w6_1 w6_2 w6_3
  have wg := (blk_cell hg_ 0).trans rfl
  have L5 := Lib.hid h5_; have L6 := Lib.hid h6_; have LG := Lib.hid hg_; have LR := Lib.hid hr_; have LB := Lib.hid hb_; clear h5_ h6_ hg_ hr_ hb_
  go_wp2_with fail
  obtain ⟨b1, hb1⟩ : ∃ b : Bool, decide (p2 ≤ xt ∧ xc ≤ xu) = b := ⟨_, rfl⟩
  refine (impl_blockOf.calls p2 xc xt xu p2 xc xt xu b1 _ (blockOf_is _ _ _ _ _ hb1)).mono ?_; rintro e wa1 ⟨rfl, hd⟩
  have M5 := blk_below L5.out hd; have M6 := blk_below L6.out hd; have MG := blk_below LG.out hd; have MR := Kd.R_below LR.out hd; have MB := below_step LB.out hd; clear L5 L6 LG LR LB hd
  have N5 := Lib.hid M5; have N6 := Lib.hid M6; have NG := Lib.hid MG; have NR := Lib.hid MR; have NB := Lib.hid MB; clear M5 M6 MG MR MB
  go_wp2_with fail
  refine (Without_add p2 xc xt xu b1 w7.heap.size _ _ w wa1 NR.out (Nat.le_trans hlen1 (by omega)) NB.out NG.out hgb).mono ?_; rintro e wv1 ⟨rfl, v1, hg_, hr_, hb_, hw_⟩
  obtain ⟨A1_, c1_, rfl⟩ := Kd.R_slice hr_
  have h5_ := hw_ _ _ _ _ (by decide) hne5 N5.out; have h6_ := hw_ _ _ _ _ (by decide) hne6 N6.out
  rw [pieceV_is p2 xc xt xu b1 hb1] at hr_ hg_
  have hlen2 : (([] ++ pieceV xr xc p1 xu) ++ pieceV p2 xc xt xu).length ≤ 2 := pieceV_len _ _ _ _ _ 1 hlen1
  clear N5 N6 NG NR NB hw_
  have w5_0 := blk_cell h5_ 0; have w5_1 := blk_cell h5_ 1; have w5_2 := blk_cell h5_ 2; have w5_3 := blk_cell h5_ 3
  simp only [List.getElem?_toArray, List.getElem?_cons_zero, List.getElem?_cons_succ] at w5_0 w5_1 w5_2 w5_3
  have w6_0 := blk_cell h6_ 0; have w6_1 := blk_cell h6_ 1; have w6_2 := blk_cell h6_ 2; have w6_3 := blk_cell h6_ 3
  simp only [List.getElem?_toArray, List.getElem?_cons_zero, List.getElem?_cons_succ] at w6_0 w6_1 w6_2 w6_3
  have wg := (blk_cell hg_ 0).trans rfl
  have L5 := Lib.hid h5_; have L6 := Lib.hid h6_; have LG := Lib.hid hg_; have LR := Lib.hid hr_; have LB := Lib.hid hb_; clear h5_ h6_ hg_ hr_ hb_
  go_wp2_with fail
  obtain ⟨b2, hb2⟩ : ∃ b : Bool, decide (pt ≤ pl ∧ xc ≤ p3) = b := ⟨_, rfl⟩
  refine (impl_blockOf.calls pt xc pl p3 pt xc pl p3 b2 _ (blockOf_is _ _ _ _ _ hb2)).mono ?_; rintro e wa2 ⟨rfl, hd⟩
  have M5 := blk_below L5.out hd; have M6 := blk_below L6.out hd; have MG := blk_below LG.out hd; have MR := Kd.R_below LR.out hd; have MB := below_step LB.out hd; clear L5 L6 LG LR LB hd
  have N5 := Lib.hid M5; have N6 := Lib.hid M6; have NG := Lib.hid MG; have NR := Lib.hid MR; have NB := Lib.hid MB; clear M5 M6 MG MR MB
  go_wp2_with fail
  refine (Without_add pt xc pl p3 b2 w7.heap.size _ _ w wa2 NR.out (Nat.le_trans hlen2 (by omega)) NB.out NG.out hgb).mono ?_; rintro e wv2 ⟨rfl, v2, hg_, hr_, hb_, hw_⟩
  obtain ⟨A2_, c2_, rfl⟩ := Kd.R_slice hr_
  have h5_ := hw_ _ _ _ _ (by decide) hne5 N5.out; have h6_ := hw_ _ _ _ _ (by decide) hne6 N6.out
  rw [pieceV_is pt xc pl p3 b2 hb2] at hr_ hg_
  have hlen3 : ((([] ++ pieceV xr xc p1 xu) ++ pieceV p2 xc xt xu) ++ pieceV pt xc pl p3).length ≤ 3 := pieceV_len _ _ _ _ _ 2 hlen2
  clear N5 N6 NG NR NB hw_
  have w5_0 := blk_cell h5_ 0; have w5_1 := blk_cell h5_ 1; have w5_2 := blk_cell h5_ 2; have w5_3 := blk_cell h5_ 3
  simp only [List.getElem?_toArray, List.getElem?_cons_zero, List.getElem?_cons_succ] at w5_0 w5_1 w5_2 w5_3
  have w6_0 := blk_cell h6_ 0; have w6_1 := blk_cell h6_ 1; have w6_2 := blk_cell h6_ 2; have w6_3 := blk_cell h6_ 3
  simp only [List.getElem?_toArray, List.getElem?_cons_zero, List.getElem?_cons_succ] at w6_0 w6_1 w6_2 w6_3
  have wg := (blk_cell hg_ 0).trans rfl
  have L5 := Lib.hid h5_; have L6 := Lib.hid h6_; have LG := Lib.hid hg_; have LR := Lib.hid hr_; have LB := Lib.hid hb_; clear h5_ h6_ hg_ hr_ hb_
  go_wp2_with fail
  obtain ⟨b3, hb3⟩ : ∃ b : Bool, decide (pt ≤ pl ∧ p4 ≤ xu) = b := ⟨_, rfl⟩
  refine (impl_blockOf.calls pt p4 pl xu pt p4 pl xu b3 _ (blockOf_is _ _ _ _ _ hb3)).mono ?_; rintro e wa3 ⟨rfl, hd⟩
  have M5 := blk_below L5.out hd; have M6 := blk_below L6.out hd; have MG := blk_below LG.out hd; have MR := Kd.R_below LR.out hd; have MB := below_step LB.out hd; clear L5 L6 LG LR LB hd
  have N5 := Lib.hid M5; have N6 := Lib.hid M6; have NG := Lib.hid MG; have NR := Lib.hid MR; have NB := Lib.hid MB; clear M5 M6 MG MR MB
  go_wp2_with fail
  refine (Without_add pt p4 pl xu b3 w7.heap.size _ _ w wa3 NR.out (Nat.le_trans hlen3 (by omega)) NB.out NG.out hgb).mono ?_; rintro e wv3 ⟨rfl, v3, hg_, hr_, hb_, hw_⟩
  obtain ⟨A3_, c3_, rfl⟩ := Kd.R_slice hr_
  have h5_ := hw_ _ _ _ _ (by decide) hne5 N5.out; have h6_ := hw_ _ _ _ _ (by decide) hne6 N6.out
  rw [pieceV_is pt p4 pl xu b3 hb3] at hr_ hg_
  have hlen4 : (((([] ++ pieceV xr xc p1 xu) ++ pieceV p2 xc xt xu) ++ pieceV pt xc pl p3) ++ pieceV pt p4 pl xu).length ≤ 4 := pieceV_len _ _ _ _ _ 3 hlen3
  clear N5 N6 NG NR NB hw_
  have w5_0 := blk_cell h5_ 0; have w5_1 := blk_cell h5_ 1; have w5_2 := blk_cell h5_ 2; have w5_3 := blk_cell h5_ 3
  simp only [List.getElem?_toArray, List.getElem?_cons_zero, List.getElem?_cons_succ] at w5_0 w5_1 w5_2 w5_3
  have w6_0 := blk_cell h6_ 0; have w6_1 := blk_cell h6_ 1; have w6_2 := blk_cell h6_ 2; have w6_3 := blk_cell h6_ 3
  simp only [List.getElem?_toArray, List.getElem?_cons_zero, List.getElem?_cons_succ] at w6_0 w6_1 w6_2 w6_3
  have wg := (blk_cell hg_ 0).trans rfl
  have L5 := Lib.hid h5_; have L6 := Lib.hid h6_; have LG := Lib.hid hg_; have LR := Lib.hid hr_; have LB := Lib.hid hb_; clear h5_ h6_ hg_ hr_ hb_
  go_wp2_with fail
  go_ret
  refine ⟨_, rfl, ?_, LB.out⟩
  have h_ := LR.out
  simpa using h_

set_option maxHeartbeats 8000000 in
set_option maxRecDepth 100000 in
theorem Without_bad (a0_0 : Int) (a0_1 : Int) (a0_2 : Bool) (a0_3 : Bool) (a0_4 : Int) (a0_5 : Int) (a0_6 : Bool) (a0_7 : Bool) (a1_0 : Int) (a1_1 : Int) (a1_2 : Bool) (a1_3 : Bool) (a1_4 : Int) (a1_5 : Int) (a1_6 : Bool) (a1_7 : Bool) (g : Bool) (w : World) (hga : impl_GoodArea.f a0_0 a0_1 a0_2 a0_3 a0_4 a0_5 a0_6 a0_7 = some g) (h : g = false ∨ impl_GoodArea.f a1_0 a1_1 a1_2 a1_3 a1_4 a1_5 a1_6 a1_7 = some false) :
    Calls Try.prog 14 #[.agg #[.int .i64 a0_0, .int .i64 a0_1, .bool a0_2, .bool a0_3, .int .i64 a0_4, .int .i64 a0_5, .bool a0_6, .bool a0_7], .agg #[.int .i64 a1_0, .int .i64 a1_1, .bool a1_2, .bool a1_3, .int .i64 a1_4, .int .i64 a1_5, .bool a1_6, .bool a1_7]] w fun e w' => ∃ v, e = .returned v ∧ Kd.R k33 33 w' w.heap.size (fun _ => True) v [] ∧ Below w.heap.size w w' := by
  have hb0 : Below w.heap.size w ((w.alloc (.cells #[.int .i64 a0_0, .int .i64 a0_1, .bool a0_2, .bool a0_3, .int .i64 a0_4, .int .i64 a0_5, .bool a0_6, .bool a0_7] 33)).alloc (.cells #[.int .i64 a1_0, .int .i64 a1_1, .bool a1_2, .bool a1_3, .int .i64 a1_4, .int .i64 a1_5, .bool a1_6, .bool a1_7] 33)) := below_alloc (below_alloc (Below.refl _ _) _) _
  have h2_ := blk_alloc (blk_new w (.cells #[.int .i64 a0_0, .int .i64 a0_1, .bool a0_2, .bool a0_3, .int .i64 a0_4, .int .i64 a0_5, .bool a0_6, .bool a0_7] 33)) (.cells #[.int .i64 a1_0, .int .i64 a1_1, .bool a1_2, .bool a1_3, .int .i64 a1_4, .int .i64 a1_5, .bool a1_6, .bool a1_7] 33)
  have h3_ := blk_new (w.alloc (.cells #[.int .i64 a0_0, .int .i64 a0_1, .bool a0_2, .bool a0_3, .int .i64 a0_4, .int .i64 a0_5, .bool a0_6, .bool a0_7] 33)) (.cells #[.int .i64 a1_0, .int .i64 a1_1, .bool a1_2, .bool a1_3, .int .i64 a1_4, .int .i64 a1_5, .bool a1_6, .bool a1_7] 33)
  rw [show (w.alloc (.cells #[.int .i64 a0_0, .int .i64 a0_1, .bool a0_2, .bool a0_3, .int .i64 a0_4, .int .i64 a0_5, .bool a0_6, .bool a0_7] 33)).heap.size = w.heap.size + 1 from Array.size_push _] at h3_
  have y2_0 := blk_cell h2_ 0
  have y2_1 := blk_cell h2_ 1
  have y2_2 := blk_cell h2_ 2
  have y2_3 := blk_cell h2_ 3
  have y2_4 := blk_cell h2_ 4
  have y2_5 := blk_cell h2_ 5
  have y2_6 := blk_cell h2_ 6
  have y2_7 := blk_cell h2_ 7
  simp only [List.getElem?_toArray, List.getElem?_cons_zero, List.getElem?_cons_succ] at y2_0 y2_1 y2_2 y2_3 y2_4 y2_5 y2_6 y2_7
  have lt2 := blk_lt h2_
  have K2 := Lib.hid h2_; clear h2_
  have y3_0 := blk_cell h3_ 0
  have y3_1 := blk_cell h3_ 1
  have y3_2 := blk_cell h3_ 2
  have y3_3 := blk_cell h3_ 3
  have y3_4 := blk_cell h3_ 4
  have y3_5 := blk_cell h3_ 5
  have y3_6 := blk_cell h3_ 6
  have y3_7 := blk_cell h3_ 7
  simp only [List.getElem?_toArray, List.getElem?_cons_zero, List.getElem?_cons_succ] at y3_0 y3_1 y3_2 y3_3 y3_4 y3_5 y3_6 y3_7
  have lt3 := blk_lt h3_
  have K3 := Lib.hid h3_; clear h3_
  have HB := Lib.hid hb0; have HGA := Lib.hid hga; clear hb0 hga
  cases g
  · clear h
    go_enter Try.func14, Try.ntmps14
    go_wp2_with fail
    refine (impl_GoodArea.calls a0_0 a0_1 a0_2 a0_3 a0_4 a0_5 a0_6 a0_7 false _ HGA.out).mono ?_; rintro e w1 ⟨rfl, hd⟩; have HB1 := Lib.hid (below_step HB.out hd); clear hd
    go_wp2_with fail
    go_ret
    exact ⟨_, rfl, Kd.R_nil _ _ _ _ _, HB1.out⟩
  · have HGB := Lib.hid (h.resolve_left (by simp)); clear h
    go_enter Try.func14, Try.ntmps14
    go_wp2_with fail
    refine (impl_GoodArea.calls a0_0 a0_1 a0_2 a0_3 a0_4 a0_5 a0_6 a0_7 true _ HGA.out).mono ?_; rintro e w1 ⟨rfl, hd⟩
    have h3_ := blk_below K3.out hd
    have HBn := Lib.hid (below_step HB.out hd); clear hd HB; have HB := HBn; clear HBn
    clear lt3 K3 y3_0 y3_1 y3_2 y3_3 y3_4 y3_5 y3_6 y3_7
    have lt3 := blk_lt h3_
    have y3_0 := blk_cell h3_ 0
    have y3_1 := blk_cell h3_ 1
    have y3_2 := blk_cell h3_ 2
    have y3_3 := blk_cell h3_ 3
    have y3_4 := blk_cell h3_ 4
    have y3_5 := blk_cell h3_ 5
    have y3_6 := blk_cell h3_ 6
    have y3_7 := blk_cell h3_ 7
    simp only [List.getElem?_toArray, List.getElem?_cons_zero, List.getElem?_cons_succ] at y3_0 y3_1 y3_2 y3_3 y3_4 y3_5 y3_6 y3_7
    have K3 := Lib.hid h3_; clear h3_
    go_wp2_with fail
    refine (impl_GoodArea.calls a1_0 a1_1 a1_2 a1_3 a1_4 a1_5 a1_6 a1_7 false _ HGB.out).mono ?_; rintro e w2 ⟨rfl, hd⟩; have HB2 := Lib.hid (below_step HB.out hd); clear hd
    go_wp2_with fail
    go_ret
    exact ⟨_, rfl, Kd.R_nil _ _ _ _ _, HB2.out⟩

theorem impl_Without.calls (a0_0 : Int) (a0_1 : Int) (a0_2 : Bool) (a0_3 : Bool) (a0_4 : Int) (a0_5 : Int) (a0_6 : Bool) (a0_7 : Bool) (a1_0 : Int) (a1_1 : Int) (a1_2 : Bool) (a1_3 : Bool) (a1_4 : Int) (a1_5 : Int) (a1_6 : Bool) (a1_7 : Bool) (r : List S33) (w : World) (h : impl_Without.f a0_0 a0_1 a0_2 a0_3 a0_4 a0_5 a0_6 a0_7 a1_0 a1_1 a1_2 a1_3 a1_4 a1_5 a1_6 a1_7 = some r) :
    Calls Try.prog 14 #[.agg #[.int .i64 a0_0, .int .i64 a0_1, .bool a0_2, .bool a0_3, .int .i64 a0_4, .int .i64 a0_5, .bool a0_6, .bool a0_7], .agg #[.int .i64 a1_0, .int .i64 a1_1, .bool a1_2, .bool a1_3, .int .i64 a1_4, .int .i64 a1_5, .bool a1_6, .bool a1_7]] w fun e w' => ∃ v0_ : Value, e = .returned (v0_) ∧ Kd.R k33 33 w' w.heap.size (fun _ => True) v0_ r ∧ Below w.heap.size w w' := by
  unfold impl_Without.f at h
  obtain ⟨g, hg, h⟩ := Option.bind_eq_some_iff.1 h
  cases g with
  | false =>
    rw [if_neg (by simp)] at h
    obtain rfl := Option.some.inj h
    exact Without_bad _ _ _ _ _ _ _ _ _ _ _ _ _ _ _ _ false w hg (.inl rfl)
  | true =>
    rw [if_pos rfl] at h
    obtain ⟨k, hk, h⟩ := Option.bind_eq_some_iff.1 h
    cases k with
    | false =>
      rw [if_neg (by simp)] at h
      obtain rfl := Option.some.inj h
      exact Without_bad _ _ _ _ _ _ _ _ _ _ _ _ _ _ _ _ true w hg (.inr hk)
    | true =>
      rw [if_pos rfl] at h
      obtain ⟨⟨m0, m1, m2, m3, m4, m5, m6, m7, ok⟩, hm, h⟩ := Option.bind_eq_some_iff.1 h
      cases ok with
      | false =>
        simp only [Bool.false_eq_true, if_false] at h
        obtain rfl := Option.some.inj h
        exact Without_no _ _ _ _ _ _ _ _ _ _ _ _ _ _ _ _ m0 m1 m2 m3 m4 m5 m6 m7 w hg hk hm
      | true =>
        simp only [if_true] at h
        obtain rfl := Option.some.inj h
        exact Without_ok _ _ _ _ _ _ _ _ _ _ _ _ _ _ _ _ m0 m1 m2 m3 m4 m5 m6 m7 w hg hk hm



/-! ### spec_GoodRef: function 54 -/

def spec_GoodRef.f (a0_0 : Int) (a0_1 : Int) (a0_2 : Bool) (a0_3 : Bool) : Option (Bool) := if a0_0 ≥ 1 then (if a0_0 ≤ 1000 then (if a0_1 ≥ 1 then (some (decide (a0_1 ≤ 200))) else (some false)) else (some false)) else (some false)

set_option maxHeartbeats 8000000 in
set_option maxRecDepth 100000 in
theorem spec_GoodRef.calls (a0_0 : Int) (a0_1 : Int) (a0_2 : Bool) (a0_3 : Bool) (r : Bool) (w : World) (h : spec_GoodRef.f a0_0 a0_1 a0_2 a0_3 = some r) :
    Calls Try.prog 54 #[.agg #[.int .i64 a0_0, .int .i64 a0_1, .bool a0_2, .bool a0_3]] w fun e w' => e = .returned (.bool r) ∧ Below w.heap.size w w' := by
  have hu31 := Try.underlying31
  have HB := Aside0.mk (Below.refl w.heap.size w)
  have H : (if a0_0 ≥ 1 then (if a0_0 ≤ 1000 then (if a0_1 ≥ 1 then (some (decide (a0_1 ≤ 200))) else (some false)) else (some false)) else (some false)) = some r := h
  clear h
  by_cases c2 : a0_0 ≥ 1
  · rw [if_pos c2] at H
    have c2b0 : decide (1 ≤ a0_0) = true := decide_eq_true c2
    clear c2
    by_cases c3 : a0_0 ≤ 1000
    · rw [if_pos c3] at H
      have c3b0 : decide (a0_0 ≤ 1000) = true := decide_eq_true c3
      clear c3
      by_cases c4 : a0_1 ≥ 1
      · rw [if_pos c4] at H
        have c4b0 : decide (1 ≤ a0_1) = true := decide_eq_true c4
        clear c4
        obtain rfl := Option.some.inj H
        go_enter Try.func54, Try.ntmps54
        go_wp2_with (first | ((with_reducible refine gate_dst (N := 1) rfl ?_); refine box_event ?hg (N := 1) ?hd (cs := #[.int .i64 a0_0, .int .i64 a0_1, .bool a0_2, .bool a0_3]) (t := 31) ?hr ?_; (case hd => rfl); (case hg => rfl); (case hr => first | (go_simp; done) | (go_simp; rfl)); intro gb150 hg w5 hbox hb; have n0_ := Aside0.mk (below_step (by repeat (first | (with_reducible first | exact HB.out | apply below_alloc | apply pw_below_drewN | apply below_drew1) | exact HB.out)) hb); have n1_ := Aside0.mk (hbox); have n2_ := Aside0.mk ((by rw [hg]; exact (below_size (by repeat (first | (with_reducible first | exact HB.out | apply below_alloc | apply pw_below_drewN | apply below_drew1) | exact HB.out))) : w.heap.size ≤ gb150)); have n3_ := Aside0.mk ((by rw [hg]; exact (below_size (by repeat (first | (with_reducible first | exact HB.out | apply below_alloc | apply pw_below_drewN | apply below_drew1) | exact HB.out))) : w.heap.size ≤ gb150)); clear HB; have HB := n0_; have BK150 := n1_; have GW150 := n2_; have GE150 := n3_; clear n0_ n1_ n2_ n3_; clear hb hbox hg; have hcz6_0 : w5.cell? ⟨gb150, 0, none⟩ = some (.int .i64 a0_0) := (blk_cell BK150.out 0).trans rfl; have hcz6_1 : w5.cell? ⟨gb150, 1, none⟩ = some (.int .i64 a0_1) := (blk_cell BK150.out 1).trans rfl; have hcz6_2 : w5.cell? ⟨gb150, 2, none⟩ = some (.bool a0_2) := (blk_cell BK150.out 2).trans rfl; have hcz6_3 : w5.cell? ⟨gb150, 3, none⟩ = some (.bool a0_3) := (blk_cell BK150.out 3).trans rfl; have hfz6_0 := blk_frozen BK150.out 0; have hfz6_1 := blk_frozen BK150.out 1; have hfz6_2 := blk_frozen BK150.out 2; have hfz6_3 := blk_frozen BK150.out 3))
        go_ret
        exact ⟨by first | rfl | (simp [errW_none, errW_some] <;> rfl) | (simp [*, errW_none, errW_some] <;> rfl), by repeat (first | (with_reducible first | exact HB.out | apply below_alloc | apply pw_below_drewN | apply below_drew1 | refine below_set ?_ GE150.out) | exact HB.out)⟩
      · rw [if_neg c4] at H
        have c4b0 : decide (1 ≤ a0_1) = false := decide_eq_false c4
        clear c4
        obtain rfl := Option.some.inj H
        go_enter Try.func54, Try.ntmps54
        go_wp2_with (first | ((with_reducible refine gate_dst (N := 1) rfl ?_); refine box_event ?hg (N := 1) ?hd (cs := #[.int .i64 a0_0, .int .i64 a0_1, .bool a0_2, .bool a0_3]) (t := 31) ?hr ?_; (case hd => rfl); (case hg => rfl); (case hr => first | (go_simp; done) | (go_simp; rfl)); intro gb150 hg w7 hbox hb; have n0_ := Aside0.mk (below_step (by repeat (first | (with_reducible first | exact HB.out | apply below_alloc | apply pw_below_drewN | apply below_drew1) | exact HB.out)) hb); have n1_ := Aside0.mk (hbox); have n2_ := Aside0.mk ((by rw [hg]; exact (below_size (by repeat (first | (with_reducible first | exact HB.out | apply below_alloc | apply pw_below_drewN | apply below_drew1) | exact HB.out))) : w.heap.size ≤ gb150)); have n3_ := Aside0.mk ((by rw [hg]; exact (below_size (by repeat (first | (with_reducible first | exact HB.out | apply below_alloc | apply pw_below_drewN | apply below_drew1) | exact HB.out))) : w.heap.size ≤ gb150)); clear HB; have HB := n0_; have BK150 := n1_; have GW150 := n2_; have GE150 := n3_; clear n0_ n1_ n2_ n3_; clear hb hbox hg; have hcz8_0 : w7.cell? ⟨gb150, 0, none⟩ = some (.int .i64 a0_0) := (blk_cell BK150.out 0).trans rfl; have hcz8_1 : w7.cell? ⟨gb150, 1, none⟩ = some (.int .i64 a0_1) := (blk_cell BK150.out 1).trans rfl; have hcz8_2 : w7.cell? ⟨gb150, 2, none⟩ = some (.bool a0_2) := (blk_cell BK150.out 2).trans rfl; have hcz8_3 : w7.cell? ⟨gb150, 3, none⟩ = some (.bool a0_3) := (blk_cell BK150.out 3).trans rfl; have hfz8_0 := blk_frozen BK150.out 0; have hfz8_1 := blk_frozen BK150.out 1; have hfz8_2 := blk_frozen BK150.out 2; have hfz8_3 := blk_frozen BK150.out 3))
        go_ret
        exact ⟨by first | rfl | (simp [errW_none, errW_some] <;> rfl) | (simp [*, errW_none, errW_some] <;> rfl), by repeat (first | (with_reducible first | exact HB.out | apply below_alloc | apply pw_below_drewN | apply below_drew1 | refine below_set ?_ GE150.out) | exact HB.out)⟩
    · rw [if_neg c3] at H
      have c3b0 : decide (a0_0 ≤ 1000) = false := decide_eq_false c3
      clear c3
      obtain rfl := Option.some.inj H
      go_enter Try.func54, Try.ntmps54
      go_wp2_with (first | ((with_reducible refine gate_dst (N := 1) rfl ?_); refine box_event ?hg (N := 1) ?hd (cs := #[.int .i64 a0_0, .int .i64 a0_1, .bool a0_2, .bool a0_3]) (t := 31) ?hr ?_; (case hd => rfl); (case hg => rfl); (case hr => first | (go_simp; done) | (go_simp; rfl)); intro gb150 hg w9 hbox hb; have n0_ := Aside0.mk (below_step (by repeat (first | (with_reducible first | exact HB.out | apply below_alloc | apply pw_below_drewN | apply below_drew1) | exact HB.out)) hb); have n1_ := Aside0.mk (hbox); have n2_ := Aside0.mk ((by rw [hg]; exact (below_size (by repeat (first | (with_reducible first | exact HB.out | apply below_alloc | apply pw_below_drewN | apply below_drew1) | exact HB.out))) : w.heap.size ≤ gb150)); have n3_ := Aside0.mk ((by rw [hg]; exact (below_size (by repeat (first | (with_reducible first | exact HB.out | apply below_alloc | apply pw_below_drewN | apply below_drew1) | exact HB.out))) : w.heap.size ≤ gb150)); clear HB; have HB := n0_; have BK150 := n1_; have GW150 := n2_; have GE150 := n3_; clear n0_ n1_ n2_ n3_; clear hb hbox hg; have hcz10_0 : w9.cell? ⟨gb150, 0, none⟩ = some (.int .i64 a0_0) := (blk_cell BK150.out 0).trans rfl; have hcz10_1 : w9.cell? ⟨gb150, 1, none⟩ = some (.int .i64 a0_1) := (blk_cell BK150.out 1).trans rfl; have hcz10_2 : w9.cell? ⟨gb150, 2, none⟩ = some (.bool a0_2) := (blk_cell BK150.out 2).trans rfl; have hcz10_3 : w9.cell? ⟨gb150, 3, none⟩ = some (.bool a0_3) := (blk_cell BK150.out 3).trans rfl; have hfz10_0 := blk_frozen BK150.out 0; have hfz10_1 := blk_frozen BK150.out 1; have hfz10_2 := blk_frozen BK150.out 2; have hfz10_3 := blk_frozen BK150.out 3))
      go_ret
      exact ⟨by first | rfl | (simp [errW_none, errW_some] <;> rfl) | (simp [*, errW_none, errW_some] <;> rfl), by repeat (first | (with_reducible first | exact HB.out | apply below_alloc | apply pw_below_drewN | apply below_drew1 | refine below_set ?_ GE150.out) | exact HB.out)⟩
  · rw [if_neg c2] at H
    have c2b0 : decide (1 ≤ a0_0) = false := decide_eq_false c2
    clear c2
    obtain rfl := Option.some.inj H
    go_enter Try.func54, Try.ntmps54
    go_wp2_with (first | ((with_reducible refine gate_dst (N := 1) rfl ?_); refine box_event ?hg (N := 1) ?hd (cs := #[.int .i64 a0_0, .int .i64 a0_1, .bool a0_2, .bool a0_3]) (t := 31) ?hr ?_; (case hd => rfl); (case hg => rfl); (case hr => first | (go_simp; done) | (go_simp; rfl)); intro gb150 hg w11 hbox hb; have n0_ := Aside0.mk (below_step (by repeat (first | (with_reducible first | exact HB.out | apply below_alloc | apply pw_below_drewN | apply below_drew1) | exact HB.out)) hb); have n1_ := Aside0.mk (hbox); have n2_ := Aside0.mk ((by rw [hg]; exact (below_size (by repeat (first | (with_reducible first | exact HB.out | apply below_alloc | apply pw_below_drewN | apply below_drew1) | exact HB.out))) : w.heap.size ≤ gb150)); have n3_ := Aside0.mk ((by rw [hg]; exact (below_size (by repeat (first | (with_reducible first | exact HB.out | apply below_alloc | apply pw_below_drewN | apply below_drew1) | exact HB.out))) : w.heap.size ≤ gb150)); clear HB; have HB := n0_; have BK150 := n1_; have GW150 := n2_; have GE150 := n3_; clear n0_ n1_ n2_ n3_; clear hb hbox hg; have hcz12_0 : w11.cell? ⟨gb150, 0, none⟩ = some (.int .i64 a0_0) := (blk_cell BK150.out 0).trans rfl; have hcz12_1 : w11.cell? ⟨gb150, 1, none⟩ = some (.int .i64 a0_1) := (blk_cell BK150.out 1).trans rfl; have hcz12_2 : w11.cell? ⟨gb150, 2, none⟩ = some (.bool a0_2) := (blk_cell BK150.out 2).trans rfl; have hcz12_3 : w11.cell? ⟨gb150, 3, none⟩ = some (.bool a0_3) := (blk_cell BK150.out 3).trans rfl; have hfz12_0 := blk_frozen BK150.out 0; have hfz12_1 := blk_frozen BK150.out 1; have hfz12_2 := blk_frozen BK150.out 2; have hfz12_3 := blk_frozen BK150.out 3))
    go_ret
    exact ⟨by first | rfl | (simp [errW_none, errW_some] <;> rfl) | (simp [*, errW_none, errW_some] <;> rfl), by repeat (first | (with_reducible first | exact HB.out | apply below_alloc | apply pw_below_drewN | apply below_drew1 | refine below_set ?_ GE150.out) | exact HB.out)⟩



/-! ### spec_GoodArea: function 17 -/

def spec_GoodArea.f (a0_0 : Int) (a0_1 : Int) (a0_2 : Bool) (a0_3 : Bool) (a0_4 : Int) (a0_5 : Int) (a0_6 : Bool) (a0_7 : Bool) : Option (Bool) := (spec_GoodRef.f a0_0 a0_1 a0_2 a0_3).bind fun t152 => (if t152 = true then ((spec_GoodRef.f a0_4 a0_5 a0_6 a0_7).bind fun t153 => (some t153)) else (some false))

set_option maxHeartbeats 8000000 in
set_option maxRecDepth 100000 in
theorem spec_GoodArea.calls (a0_0 : Int) (a0_1 : Int) (a0_2 : Bool) (a0_3 : Bool) (a0_4 : Int) (a0_5 : Int) (a0_6 : Bool) (a0_7 : Bool) (r : Bool) (w : World) (h : spec_GoodArea.f a0_0 a0_1 a0_2 a0_3 a0_4 a0_5 a0_6 a0_7 = some r) :
    Calls Try.prog 17 #[.agg #[.int .i64 a0_0, .int .i64 a0_1, .bool a0_2, .bool a0_3, .int .i64 a0_4, .int .i64 a0_5, .bool a0_6, .bool a0_7]] w fun e w' => e = .returned (.bool r) ∧ Below w.heap.size w w' := by
  have hu33 := Try.underlying33
  have hu31 := Try.underlying31
  have HB := Aside0.mk (Below.refl w.heap.size w)
  have H : ((spec_GoodRef.f a0_0 a0_1 a0_2 a0_3).bind fun t152 => (if t152 = true then ((spec_GoodRef.f a0_4 a0_5 a0_6 a0_7).bind fun t153 => (some t153)) else (some false))) = some r := h
  clear h
  replace H := Option.bind_eq_some_iff.mp H
  obtain ⟨t152, A20, H⟩ := H
  replace H : (if t152 = true then ((spec_GoodRef.f a0_4 a0_5 a0_6 a0_7).bind fun t153 => (some t153)) else (some false)) = some r := H
  have A2 := Aside0.mk A20
  clear A20
  by_cases c3 : t152 = true
  · subst c3
    have H1 : ((spec_GoodRef.f a0_4 a0_5 a0_6 a0_7).bind fun t153 => (some t153)) = some r := by rw [if_pos rfl] at H; exact H
    clear H
    have H := H1
    clear H1
    replace H := Option.bind_eq_some_iff.mp H
    obtain ⟨t153, A40, H⟩ := H
    replace H : (some t153) = some r := H
    have A4 := Aside0.mk A40
    clear A40
    obtain rfl := Option.some.inj H
    go_enter Try.func17, Try.ntmps17
    go_wp2_with (first | ((with_reducible refine gate_dst (N := 1) rfl ?_); refine box_event ?hg (N := 1) ?hd (cs := #[.int .i64 a0_0, .int .i64 a0_1, .bool a0_2, .bool a0_3, .int .i64 a0_4, .int .i64 a0_5, .bool a0_6, .bool a0_7]) (t := 33) ?hr ?_; (case hd => rfl); (case hg => rfl); (case hr => first | (go_simp; done) | (go_simp; rfl)); intro gb151 hg w5 hbox hb; have n0_ := Aside0.mk (below_step (by repeat (first | (with_reducible first | exact HB.out | apply below_alloc | apply pw_below_drewN | apply below_drew1) | exact HB.out)) hb); have n1_ := Aside0.mk (hbox); have n2_ := Aside0.mk ((by rw [hg]; exact (below_size (by repeat (first | (with_reducible first | exact HB.out | apply below_alloc | apply pw_below_drewN | apply below_drew1) | exact HB.out))) : w.heap.size ≤ gb151)); have n3_ := Aside0.mk ((by rw [hg]; exact (below_size (by repeat (first | (with_reducible first | exact HB.out | apply below_alloc | apply pw_below_drewN | apply below_drew1) | exact HB.out))) : w.heap.size ≤ gb151)); clear HB; have HB := n0_; have BK151 := n1_; have GW151 := n2_; have GE151 := n3_; clear n0_ n1_ n2_ n3_; clear hb hbox hg; have hcz6_0 : w5.cell? ⟨gb151, 0, none⟩ = some (.int .i64 a0_0) := (blk_cell BK151.out 0).trans rfl; have hcz6_1 : w5.cell? ⟨gb151, 1, none⟩ = some (.int .i64 a0_1) := (blk_cell BK151.out 1).trans rfl; have hcz6_2 : w5.cell? ⟨gb151, 2, none⟩ = some (.bool a0_2) := (blk_cell BK151.out 2).trans rfl; have hcz6_3 : w5.cell? ⟨gb151, 3, none⟩ = some (.bool a0_3) := (blk_cell BK151.out 3).trans rfl; have hcz6_4 : w5.cell? ⟨gb151, 4, none⟩ = some (.int .i64 a0_4) := (blk_cell BK151.out 4).trans rfl; have hcz6_5 : w5.cell? ⟨gb151, 5, none⟩ = some (.int .i64 a0_5) := (blk_cell BK151.out 5).trans rfl; have hcz6_6 : w5.cell? ⟨gb151, 6, none⟩ = some (.bool a0_6) := (blk_cell BK151.out 6).trans rfl; have hcz6_7 : w5.cell? ⟨gb151, 7, none⟩ = some (.bool a0_7) := (blk_cell BK151.out 7).trans rfl; have hfz6_0 := blk_frozen BK151.out 0; have hfz6_1 := blk_frozen BK151.out 1; have hfz6_2 := blk_frozen BK151.out 2; have hfz6_3 := blk_frozen BK151.out 3; have hfz6_4 := blk_frozen BK151.out 4; have hfz6_5 := blk_frozen BK151.out 5; have hfz6_6 := blk_frozen BK151.out 6; have hfz6_7 := blk_frozen BK151.out 7) | ((with_reducible refine gate_callee (f := 54) rfl ?_); refine goesL_ (some 5) rfl rfl Try.func54 (by kernel_rfl) rfl #[.agg #[.int .i64 a0_0, .int .i64 a0_1, .bool a0_2, .bool a0_3]] rfl (by (try simp only [List.map_toArray, List.map_cons, List.map_nil]); first | done | rfl | (simp only [List.length_drop, List.length_take]; rfl)) ?_; (with_reducible refine (spec_GoodRef.calls a0_0 a0_1 a0_2 a0_3 true _ A2.out).mono ?_); rintro e w7 ⟨rfl, hb⟩; refine ⟨_, rfl, ?_⟩; have n0_ := Aside0.mk (blk_below (g := gb151) (o := .cells #[.int .i64 a0_0, .int .i64 a0_1, .bool a0_2, .bool a0_3, .int .i64 a0_4, .int .i64 a0_5, .bool a0_6, .bool a0_7] 33 (0, 0)) (by (with_reducible repeat (first | refine blk_drewN ?_ _ | refine blk_drew ?_ | refine blk_alloc ?_ _)); exact BK151.out) hb); have n1_ := Aside0.mk (below_step (by repeat (first | (with_reducible first | exact HB.out | apply below_alloc | apply pw_below_drewN | apply below_drew1 | refine below_set ?_ GE151.out) | exact HB.out)) hb); clear BK151; clear HB; have BK151 := n0_; have HB := n1_; clear n0_ n1_; (try clear hb); (try clear hb2); (try clear hk); (try clear hi); have hcz8_0 : w7.cell? ⟨gb151, 0, none⟩ = some (.int .i64 a0_0) := (blk_cell BK151.out 0).trans rfl; have hcz8_1 : w7.cell? ⟨gb151, 1, none⟩ = some (.int .i64 a0_1) := (blk_cell BK151.out 1).trans rfl; have hcz8_2 : w7.cell? ⟨gb151, 2, none⟩ = some (.bool a0_2) := (blk_cell BK151.out 2).trans rfl; have hcz8_3 : w7.cell? ⟨gb151, 3, none⟩ = some (.bool a0_3) := (blk_cell BK151.out 3).trans rfl; have hcz8_4 : w7.cell? ⟨gb151, 4, none⟩ = some (.int .i64 a0_4) := (blk_cell BK151.out 4).trans rfl; have hcz8_5 : w7.cell? ⟨gb151, 5, none⟩ = some (.int .i64 a0_5) := (blk_cell BK151.out 5).trans rfl; have hcz8_6 : w7.cell? ⟨gb151, 6, none⟩ = some (.bool a0_6) := (blk_cell BK151.out 6).trans rfl; have hcz8_7 : w7.cell? ⟨gb151, 7, none⟩ = some (.bool a0_7) := (blk_cell BK151.out 7).trans rfl; have hfz8_0 := blk_frozen BK151.out 0; have hfz8_1 := blk_frozen BK151.out 1; have hfz8_2 := blk_frozen BK151.out 2; have hfz8_3 := blk_frozen BK151.out 3; have hfz8_4 := blk_frozen BK151.out 4; have hfz8_5 := blk_frozen BK151.out 5; have hfz8_6 := blk_frozen BK151.out 6; have hfz8_7 := blk_frozen BK151.out 7) | (go_at_call 54; (with_reducible refine (spec_GoodRef.calls a0_4 a0_5 a0_6 a0_7 t153 _ A4.out).mono ?_); rintro e w9 ⟨rfl, hb⟩; have n0_ := Aside0.mk (blk_below (g := gb151) (o := .cells #[.int .i64 a0_0, .int .i64 a0_1, .bool a0_2, .bool a0_3, .int .i64 a0_4, .int .i64 a0_5, .bool a0_6, .bool a0_7] 33 (0, 0)) (by (with_reducible repeat (first | refine blk_drewN ?_ _ | refine blk_drew ?_ | refine blk_alloc ?_ _)); exact BK151.out) hb); have n1_ := Aside0.mk (below_step (by repeat (first | (with_reducible first | exact HB.out | apply below_alloc | apply pw_below_drewN | apply below_drew1 | refine below_set ?_ GE151.out) | exact HB.out)) hb); clear BK151; clear HB; have BK151 := n0_; have HB := n1_; clear n0_ n1_; (try clear hb); (try clear hb2); (try clear hk); (try clear hi)))
    go_ret
    exact ⟨by first | rfl | (simp [errW_none, errW_some] <;> rfl) | (simp [*, errW_none, errW_some] <;> rfl), by repeat (first | (with_reducible first | exact HB.out | apply below_alloc | apply pw_below_drewN | apply below_drew1 | refine below_set ?_ GE151.out) | exact HB.out)⟩
  · replace c3 := Bool.eq_false_iff.mpr c3
    subst c3
    have H1 : (some false) = some r := by rw [if_neg (show ¬ (false = true) by decide)] at H; exact H
    clear H
    have H := H1
    clear H1
    obtain rfl := Option.some.inj H
    go_enter Try.func17, Try.ntmps17
    go_wp2_with (first | ((with_reducible refine gate_dst (N := 1) rfl ?_); refine box_event ?hg (N := 1) ?hd (cs := #[.int .i64 a0_0, .int .i64 a0_1, .bool a0_2, .bool a0_3, .int .i64 a0_4, .int .i64 a0_5, .bool a0_6, .bool a0_7]) (t := 33) ?hr ?_; (case hd => rfl); (case hg => rfl); (case hr => first | (go_simp; done) | (go_simp; rfl)); intro gb151 hg w10 hbox hb; have n0_ := Aside0.mk (below_step (by repeat (first | (with_reducible first | exact HB.out | apply below_alloc | apply pw_below_drewN | apply below_drew1) | exact HB.out)) hb); have n1_ := Aside0.mk (hbox); have n2_ := Aside0.mk ((by rw [hg]; exact (below_size (by repeat (first | (with_reducible first | exact HB.out | apply below_alloc | apply pw_below_drewN | apply below_drew1) | exact HB.out))) : w.heap.size ≤ gb151)); have n3_ := Aside0.mk ((by rw [hg]; exact (below_size (by repeat (first | (with_reducible first | exact HB.out | apply below_alloc | apply pw_below_drewN | apply below_drew1) | exact HB.out))) : w.heap.size ≤ gb151)); clear HB; have HB := n0_; have BK151 := n1_; have GW151 := n2_; have GE151 := n3_; clear n0_ n1_ n2_ n3_; clear hb hbox hg; have hcz11_0 : w10.cell? ⟨gb151, 0, none⟩ = some (.int .i64 a0_0) := (blk_cell BK151.out 0).trans rfl; have hcz11_1 : w10.cell? ⟨gb151, 1, none⟩ = some (.int .i64 a0_1) := (blk_cell BK151.out 1).trans rfl; have hcz11_2 : w10.cell? ⟨gb151, 2, none⟩ = some (.bool a0_2) := (blk_cell BK151.out 2).trans rfl; have hcz11_3 : w10.cell? ⟨gb151, 3, none⟩ = some (.bool a0_3) := (blk_cell BK151.out 3).trans rfl; have hcz11_4 : w10.cell? ⟨gb151, 4, none⟩ = some (.int .i64 a0_4) := (blk_cell BK151.out 4).trans rfl; have hcz11_5 : w10.cell? ⟨gb151, 5, none⟩ = some (.int .i64 a0_5) := (blk_cell BK151.out 5).trans rfl; have hcz11_6 : w10.cell? ⟨gb151, 6, none⟩ = some (.bool a0_6) := (blk_cell BK151.out 6).trans rfl; have hcz11_7 : w10.cell? ⟨gb151, 7, none⟩ = some (.bool a0_7) := (blk_cell BK151.out 7).trans rfl; have hfz11_0 := blk_frozen BK151.out 0; have hfz11_1 := blk_frozen BK151.out 1; have hfz11_2 := blk_frozen BK151.out 2; have hfz11_3 := blk_frozen BK151.out 3; have hfz11_4 := blk_frozen BK151.out 4; have hfz11_5 := blk_frozen BK151.out 5; have hfz11_6 := blk_frozen BK151.out 6; have hfz11_7 := blk_frozen BK151.out 7) | ((with_reducible refine gate_callee (f := 54) rfl ?_); refine goesL_ (some 5) rfl rfl Try.func54 (by kernel_rfl) rfl #[.agg #[.int .i64 a0_0, .int .i64 a0_1, .bool a0_2, .bool a0_3]] rfl (by (try simp only [List.map_toArray, List.map_cons, List.map_nil]); first | done | rfl | (simp only [List.length_drop, List.length_take]; rfl)) ?_; (with_reducible refine (spec_GoodRef.calls a0_0 a0_1 a0_2 a0_3 false _ A2.out).mono ?_); rintro e w12 ⟨rfl, hb⟩; refine ⟨_, rfl, ?_⟩; have n0_ := Aside0.mk (blk_below (g := gb151) (o := .cells #[.int .i64 a0_0, .int .i64 a0_1, .bool a0_2, .bool a0_3, .int .i64 a0_4, .int .i64 a0_5, .bool a0_6, .bool a0_7] 33 (0, 0)) (by (with_reducible repeat (first | refine blk_drewN ?_ _ | refine blk_drew ?_ | refine blk_alloc ?_ _)); exact BK151.out) hb); have n1_ := Aside0.mk (below_step (by repeat (first | (with_reducible first | exact HB.out | apply below_alloc | apply pw_below_drewN | apply below_drew1 | refine below_set ?_ GE151.out) | exact HB.out)) hb); clear BK151; clear HB; have BK151 := n0_; have HB := n1_; clear n0_ n1_; (try clear hb); (try clear hb2); (try clear hk); (try clear hi)))
    go_ret
    exact ⟨by first | rfl | (simp [errW_none, errW_some] <;> rfl) | (simp [*, errW_none, errW_some] <;> rfl), by repeat (first | (with_reducible first | exact HB.out | apply below_alloc | apply pw_below_drewN | apply below_drew1 | refine below_set ?_ GE151.out) | exact HB.out)⟩



/-! ### spec_l3Normal: function 52 -/

def spec_l3Normal.f (a0_0 : Int) (a0_1 : Int) (a0_2 : Bool) (a0_3 : Bool) (a0_4 : Int) (a0_5 : Int) (a0_6 : Bool) (a0_7 : Bool) : Option (Int × Int × Bool × Bool × Int × Int × Bool × Bool) := if a0_0 > a0_4 then (if a0_1 > a0_5 then (some (a0_4, a0_5, a0_6, a0_7, a0_0, a0_1, a0_2, a0_3)) else (some (a0_4, a0_1, a0_6, a0_3, a0_0, a0_5, a0_2, a0_7))) else (if a0_1 > a0_5 then (some (a0_0, a0_5, a0_2, a0_7, a0_4, a0_1, a0_6, a0_3)) else (some (a0_0, a0_1, a0_2, a0_3, a0_4, a0_5, a0_6, a0_7)))

set_option maxHeartbeats 8000000 in
set_option maxRecDepth 100000 in
theorem spec_l3Normal.calls (a0_0 : Int) (a0_1 : Int) (a0_2 : Bool) (a0_3 : Bool) (a0_4 : Int) (a0_5 : Int) (a0_6 : Bool) (a0_7 : Bool) (r1 : Int) (r2 : Int) (r3 : Bool) (r4 : Bool) (r5 : Int) (r6 : Int) (r7 : Bool) (r8 : Bool) (w : World) (h : spec_l3Normal.f a0_0 a0_1 a0_2 a0_3 a0_4 a0_5 a0_6 a0_7 = some (r1, r2, r3, r4, r5, r6, r7, r8)) :
    Calls Try.prog 52 #[.agg #[.int .i64 a0_0, .int .i64 a0_1, .bool a0_2, .bool a0_3, .int .i64 a0_4, .int .i64 a0_5, .bool a0_6, .bool a0_7]] w fun e w' => e = .returned (.agg #[.int .i64 r1, .int .i64 r2, .bool r3, .bool r4, .int .i64 r5, .int .i64 r6, .bool r7, .bool r8]) ∧ Below w.heap.size w w' := by
  unfold spec_l3Normal.f at h
  by_cases c2 : a0_0 > a0_4 <;> by_cases c3 : a0_1 > a0_5
  all_goals
    simp only [c2, c3, if_true, if_false, Option.some.injEq, Prod.mk.injEq] at h
    obtain ⟨rfl, rfl, rfl, rfl, rfl, rfl, rfl, rfl⟩ := h
    first
      | (have b2 : decide (a0_4 < a0_0) = true := decide_eq_true c2; clear c2)
      | (have b2 : decide (a0_4 < a0_0) = false := decide_eq_false c2; clear c2)
    first
      | (have b3 : decide (a0_5 < a0_1) = true := decide_eq_true c3; clear c3)
      | (have b3 : decide (a0_5 < a0_1) = false := decide_eq_false c3; clear c3)
    go_enter Try.func52, Try.ntmps52
    go_wp2
    refine bodyPost_ret (by simp [results, Try.results52, go_sem]) rfl ⟨rfl, ?_⟩
    exact (((Below.refl _ _).alloc (Nat.le_refl _) _).alloc (by simp) _).alloc (by first | (simp; done) | (simp; omega)) _

/-! ### spec_l3Area: function 53 -/

def spec_l3Area.f (a0 : Int) (a1 : Int) (a2 : Int) (a3 : Int) : Option (Int × Int × Bool × Bool × Int × Int × Bool × Bool) := some (a0, a1, false, false, a2, a3, false, false)

set_option maxHeartbeats 8000000 in
set_option maxRecDepth 100000 in
theorem spec_l3Area.calls (a0 : Int) (a1 : Int) (a2 : Int) (a3 : Int) (r1 : Int) (r2 : Int) (r3 : Bool) (r4 : Bool) (r5 : Int) (r6 : Int) (r7 : Bool) (r8 : Bool) (w : World) (h : spec_l3Area.f a0 a1 a2 a3 = some (r1, r2, r3, r4, r5, r6, r7, r8)) :
    Calls Try.prog 53 #[.int .i64 a0, .int .i64 a1, .int .i64 a2, .int .i64 a3] w fun e w' => e = .returned (.agg #[.int .i64 r1, .int .i64 r2, .bool r3, .bool r4, .int .i64 r5, .int .i64 r6, .bool r7, .bool r8]) ∧ Below w.heap.size w w' := by
  have hu33 := Try.underlying33
  have hu31 := Try.underlying31
  have HB := Aside0.mk (Below.refl w.heap.size w)
  have H : (some (a0, a1, false, false, a2, a3, false, false)) = some (r1, r2, r3, r4, r5, r6, r7, r8) := h
  clear h
  simp only [Option.some.injEq, Prod.mk.injEq] at H
  obtain ⟨rfl, rfl, rfl, rfl, rfl, rfl, rfl, rfl⟩ := H
  go_enter Try.func53, Try.ntmps53
  go_wp2_with (first | ((with_reducible refine gate_dst (N := 8) rfl ?_); refine box_event ?hg (N := 8) ?hd (cs := #[.int .i64 0, .int .i64 0, .bool false, .bool false, .int .i64 0, .int .i64 0, .bool false, .bool false]) (t := 33) ?hr ?_; (case hd => rfl); (case hg => rfl); (case hr => first | (go_simp; done) | (go_simp; rfl)); intro gb157 hg w5 hbox hb; have n0_ := Aside0.mk (below_step (by repeat (first | (with_reducible first | exact HB.out | apply below_alloc | apply pw_below_drewN | apply below_drew1) | exact HB.out)) hb); have n1_ := Aside0.mk (hbox); have n2_ := Aside0.mk ((by rw [hg]; exact (below_size (by repeat (first | (with_reducible first | exact HB.out | apply below_alloc | apply pw_below_drewN | apply below_drew1) | exact HB.out))) : w.heap.size ≤ gb157)); have n3_ := Aside0.mk ((by rw [hg]; exact (below_size (by repeat (first | (with_reducible first | exact HB.out | apply below_alloc | apply pw_below_drewN | apply below_drew1) | exact HB.out))) : w.heap.size ≤ gb157)); clear HB; have HB := n0_; have BK157 := n1_; have GW157 := n2_; have GE157 := n3_; clear n0_ n1_ n2_ n3_; clear hb hbox hg; have hcz6_0 : w5.cell? ⟨gb157, 0, none⟩ = some (.int .i64 0) := (blk_cell BK157.out 0).trans rfl; have hcz6_1 : w5.cell? ⟨gb157, 1, none⟩ = some (.int .i64 0) := (blk_cell BK157.out 1).trans rfl; have hcz6_2 : w5.cell? ⟨gb157, 2, none⟩ = some (.bool false) := (blk_cell BK157.out 2).trans rfl; have hcz6_3 : w5.cell? ⟨gb157, 3, none⟩ = some (.bool false) := (blk_cell BK157.out 3).trans rfl; have hcz6_4 : w5.cell? ⟨gb157, 4, none⟩ = some (.int .i64 0) := (blk_cell BK157.out 4).trans rfl; have hcz6_5 : w5.cell? ⟨gb157, 5, none⟩ = some (.int .i64 0) := (blk_cell BK157.out 5).trans rfl; have hcz6_6 : w5.cell? ⟨gb157, 6, none⟩ = some (.bool false) := (blk_cell BK157.out 6).trans rfl; have hcz6_7 : w5.cell? ⟨gb157, 7, none⟩ = some (.bool false) := (blk_cell BK157.out 7).trans rfl; have hfz6_0 := blk_frozen BK157.out 0; have hfz6_1 := blk_frozen BK157.out 1; have hfz6_2 := blk_frozen BK157.out 2; have hfz6_3 := blk_frozen BK157.out 3; have hfz6_4 := blk_frozen BK157.out 4; have hfz6_5 := blk_frozen BK157.out 5; have hfz6_6 := blk_frozen BK157.out 6; have hfz6_7 := blk_frozen BK157.out 7))
  refine bodyPost_ret (results_cell_row rfl _ _ gb157 33 #[.int .i64 a0, .int .i64 a1, .bool false, .bool false, .int .i64 a2, .int .i64 a3, .bool false, .bool false] (0, 0) _ rfl (by (with_reducible repeat (first | refine blk_drewN ?_ _ | refine blk_drew ?_ | refine blk_alloc ?_ _)); refine blk_put (cs := #[.int .i64 a0, .int .i64 a1, .bool false, .bool false, .int .i64 a2, .int .i64 a3, .bool false, .bool false]) ?_ 7 _ rfl; (with_reducible repeat (first | refine blk_drewN ?_ _ | refine blk_drew ?_ | refine blk_alloc ?_ _)); refine blk_put (cs := #[.int .i64 a0, .int .i64 a1, .bool false, .bool false, .int .i64 a2, .int .i64 a3, .bool false, .bool false]) ?_ 6 _ rfl; (with_reducible repeat (first | refine blk_drewN ?_ _ | refine blk_drew ?_ | refine blk_alloc ?_ _)); refine blk_put (cs := #[.int .i64 a0, .int .i64 a1, .bool false, .bool false, .int .i64 a2, .int .i64 0, .bool false, .bool false]) ?_ 5 _ rfl; (with_reducible repeat (first | refine blk_drewN ?_ _ | refine blk_drew ?_ | refine blk_alloc ?_ _)); refine blk_put (cs := #[.int .i64 a0, .int .i64 a1, .bool false, .bool false, .int .i64 0, .int .i64 0, .bool false, .bool false]) ?_ 4 _ rfl; (with_reducible repeat (first | refine blk_drewN ?_ _ | refine blk_drew ?_ | refine blk_alloc ?_ _)); refine blk_put (cs := #[.int .i64 a0, .int .i64 a1, .bool false, .bool false, .int .i64 0, .int .i64 0, .bool false, .bool false]) ?_ 3 _ rfl; (with_reducible repeat (first | refine blk_drewN ?_ _ | refine blk_drew ?_ | refine blk_alloc ?_ _)); refine blk_put (cs := #[.int .i64 a0, .int .i64 a1, .bool false, .bool false, .int .i64 0, .int .i64 0, .bool false, .bool false]) ?_ 2 _ rfl; (with_reducible repeat (first | refine blk_drewN ?_ _ | refine blk_drew ?_ | refine blk_alloc ?_ _)); refine blk_put (cs := #[.int .i64 a0, .int .i64 0, .bool false, .bool false, .int .i64 0, .int .i64 0, .bool false, .bool false]) ?_ 1 _ rfl; (with_reducible repeat (first | refine blk_drewN ?_ _ | refine blk_drew ?_ | refine blk_alloc ?_ _)); refine blk_put (cs := #[.int .i64 0, .int .i64 0, .bool false, .bool false, .int .i64 0, .int .i64 0, .bool false, .bool false]) ?_ 0 _ rfl; (with_reducible repeat (first | refine blk_drewN ?_ _ | refine blk_drew ?_ | refine blk_alloc ?_ _)); exact BK157.out) Try.underlying33 rfl (by kernel_rfl)) rfl ?_
  exact ⟨by first | rfl | (simp [errW_none, errW_some] <;> rfl) | (simp [*, errW_none, errW_some] <;> rfl), by repeat (first | (with_reducible first | exact HB.out | apply below_alloc | apply pw_below_drewN | apply below_drew1 | refine below_set ?_ GE157.out) | exact HB.out)⟩



/-! ### spec_l3Max: function 55 -/

def spec_l3Max.f (a0 : Int) (a1 : Int) : Option (Int) := if a0 > a1 then (some a0) else (some a1)

set_option maxHeartbeats 8000000 in
set_option maxRecDepth 100000 in
theorem spec_l3Max.calls (a0 : Int) (a1 : Int) (r : Int) (w : World) (h : spec_l3Max.f a0 a1 = some r) :
    Calls Try.prog 55 #[.int .i64 a0, .int .i64 a1] w fun e w' => e = .returned (.int .i64 r) ∧ Drawn0 w w' := by
  have H : (if a0 > a1 then (some a0) else (some a1)) = some r := h
  clear h
  by_cases c3 : a0 > a1
  · rw [if_pos c3] at H
    have c3b0 : decide (a1 < a0) = true := decide_eq_true c3
    clear c3
    obtain rfl := Option.some.inj H
    go_enter Try.func55, Try.ntmps55
    go_wp2
    go_ret
    exact ⟨by first | rfl | (simp; done) | (simp [*]; done), by repeat (first | exact Drawn0.refl _ | apply Drawn0.step)⟩
  · rw [if_neg c3] at H
    have c3b0 : decide (a1 < a0) = false := decide_eq_false c3
    clear c3
    obtain rfl := Option.some.inj H
    go_enter Try.func55, Try.ntmps55
    go_wp2
    go_ret
    exact ⟨by first | rfl | (simp; done) | (simp [*]; done), by repeat (first | exact Drawn0.refl _ | apply Drawn0.step)⟩



/-! ### spec_l3Min: function 56 -/

def spec_l3Min.f (a0 : Int) (a1 : Int) : Option (Int) := if a0 < a1 then (some a0) else (some a1)

set_option maxHeartbeats 8000000 in
set_option maxRecDepth 100000 in
theorem spec_l3Min.calls (a0 : Int) (a1 : Int) (r : Int) (w : World) (h : spec_l3Min.f a0 a1 = some r) :
    Calls Try.prog 56 #[.int .i64 a0, .int .i64 a1] w fun e w' => e = .returned (.int .i64 r) ∧ Drawn0 w w' := by
  have H : (if a0 < a1 then (some a0) else (some a1)) = some r := h
  clear h
  by_cases c3 : a0 < a1
  · rw [if_pos c3] at H
    have c3b0 : decide (a0 < a1) = true := decide_eq_true c3
    clear c3
    obtain rfl := Option.some.inj H
    go_enter Try.func56, Try.ntmps56
    go_wp2
    go_ret
    exact ⟨by first | rfl | (simp; done) | (simp [*]; done), by repeat (first | exact Drawn0.refl _ | apply Drawn0.step)⟩
  · rw [if_neg c3] at H
    have c3b0 : decide (a0 < a1) = false := decide_eq_false c3
    clear c3
    obtain rfl := Option.some.inj H
    go_enter Try.func56, Try.ntmps56
    go_wp2
    go_ret
    exact ⟨by first | rfl | (simp; done) | (simp [*]; done), by repeat (first | exact Drawn0.refl _ | apply Drawn0.step)⟩



/-! ### spec_Meet: function 20 -/

def spec_Meet.j0 : Nat → Bool → Int → Int → Bool → Bool → Int → Int → Bool → Bool → Int → Int → Bool → Bool → Int → Int → Bool → Bool → Option (Int × Int × Bool × Bool × Int × Int × Bool × Bool × Bool)
  | 0, _, _, _, _, _, _, _, _, _, _, _, _, _, _, _, _, _ => none
  | k + 1, x14, x159000, x159001, x159002, x159003, x159004, x159005, x159006, x159007, x160000, x160001, x160002, x160003, x160004, x160005, x160006, x160007 => if x14 = true then (some (0, 0, false, false, 0, 0, false, false, false)) else ((spec_l3Normal.f x159000 x159001 x159002 x159003 x159004 x159005 x159006 x159007).bind fun bt163 => ((spec_l3Normal.f x160000 x160001 x160002 x160003 x160004 x160005 x160006 x160007).bind fun bt171 => ((spec_l3Max.f bt163.1 bt171.1).bind fun t179 => ((spec_l3Max.f bt163.2.1 bt171.2.1).bind fun t180 => ((spec_l3Min.f bt163.2.2.2.2.1 bt171.2.2.2.2.1).bind fun t181 => ((spec_l3Min.f bt163.2.2.2.2.2.1 bt171.2.2.2.2.2.1).bind fun t182 => ((spec_l3Area.f t179 t180 t181 t182).bind fun bt183 => (if bt183.1 > bt183.2.2.2.2.1 then (some (0, 0, false, false, 0, 0, false, false, false)) else (if bt183.2.1 > bt183.2.2.2.2.2.1 then (some (0, 0, false, false, 0, 0, false, false, false)) else (some (bt183.1, bt183.2.1, bt183.2.2.1, bt183.2.2.2.1, bt183.2.2.2.2.1, bt183.2.2.2.2.2.1, bt183.2.2.2.2.2.2.1, bt183.2.2.2.2.2.2.2, true)))))))))))

def spec_Meet.f (k : Nat) (a0_0 : Int) (a0_1 : Int) (a0_2 : Bool) (a0_3 : Bool) (a0_4 : Int) (a0_5 : Int) (a0_6 : Bool) (a0_7 : Bool) (a1_0 : Int) (a1_1 : Int) (a1_2 : Bool) (a1_3 : Bool) (a1_4 : Int) (a1_5 : Int) (a1_6 : Bool) (a1_7 : Bool) : Option (Int × Int × Bool × Bool × Int × Int × Bool × Bool × Bool) := (spec_GoodArea.f a0_0 a0_1 a0_2 a0_3 a0_4 a0_5 a0_6 a0_7).bind fun t161 => (if t161 = true then ((spec_GoodArea.f a1_0 a1_1 a1_2 a1_3 a1_4 a1_5 a1_6 a1_7).bind fun t162 => (spec_Meet.j0 k (!t162) a0_0 a0_1 a0_2 a0_3 a0_4 a0_5 a0_6 a0_7 a1_0 a1_1 a1_2 a1_3 a1_4 a1_5 a1_6 a1_7)) else (spec_Meet.j0 k true a0_0 a0_1 a0_2 a0_3 a0_4 a0_5 a0_6 a0_7 a1_0 a1_1 a1_2 a1_3 a1_4 a1_5 a1_6 a1_7))

theorem spec_Meet.mono_l : ∀ k, (∀ y0 y1 y2 y3 y4 y5 y6 y7 y8 y9 y10 y11 y12 y13 y14 y15 y16, LeO (spec_Meet.j0 k y0 y1 y2 y3 y4 y5 y6 y7 y8 y9 y10 y11 y12 y13 y14 y15 y16) (spec_Meet.j0 (k + 1) y0 y1 y2 y3 y4 y5 y6 y7 y8 y9 y10 y11 y12 y13 y14 y15 y16))
  | 0 => fun _ _ _ _ _ _ _ _ _ _ _ _ _ _ _ _ _ r h => by simp [spec_Meet.j0] at h
  | k + 1 => by
    have ih0 := spec_Meet.mono_l k
    · intro y0 y1 y2 y3 y4 y5 y6 y7 y8 y9 y10 y11 y12 y13 y14 y15 y16
      unfold spec_Meet.j0
      repeat' first
      | (with_reducible exact ih0 _ _ _ _ _ _ _ _ _ _ _ _ _ _ _ _ _)
      | (with_reducible exact LeO.refl _)
      | (with_reducible exact LeO.none _)
      | (with_reducible refine LeO.ite ?_ ?_)
      | (with_reducible refine LeO.bind ?_ (fun _ => ?_))
      | exact ih0 _ _ _ _ _ _ _ _ _ _ _ _ _ _ _ _ _
      | exact LeO.none _
      | refine LeO.ite ?_ ?_
      | refine LeO.bind ?_ (fun _ => ?_)

theorem spec_Meet.mono : ∀ a0 a1 a2 a3 a4 a5 a6 a7 a8 a9 a10 a11 a12 a13 a14 a15 k, LeO (spec_Meet.f k a0 a1 a2 a3 a4 a5 a6 a7 a8 a9 a10 a11 a12 a13 a14 a15) (spec_Meet.f (k + 1) a0 a1 a2 a3 a4 a5 a6 a7 a8 a9 a10 a11 a12 a13 a14 a15) := by
  intro a0 a1 a2 a3 a4 a5 a6 a7 a8 a9 a10 a11 a12 a13 a14 a15 k
  have ih0 := spec_Meet.mono_l k
  unfold spec_Meet.f
  repeat' first
      | (with_reducible exact ih0 _ _ _ _ _ _ _ _ _ _ _ _ _ _ _ _ _)
      | (with_reducible exact LeO.refl _)
      | (with_reducible exact LeO.none _)
      | (with_reducible refine LeO.ite ?_ ?_)
      | (with_reducible refine LeO.bind ?_ (fun _ => ?_))
      | exact ih0 _ _ _ _ _ _ _ _ _ _ _ _ _ _ _ _ _
      | exact LeO.none _
      | refine LeO.ite ?_ ?_
      | refine LeO.bind ?_ (fun _ => ?_)

def spec_Meet.T5 : Bool × List (List Nat × List Nat) := (true, [([], []), ([0], [0]), ([1], [1]), ([], []), ([3], [3]), ([4], [4]), ([2, 5], [2, 5]), ([], []), ([7], [7]), ([8], [8]), ([], []), ([10], [10]), ([11], [11]), ([9, 12, 6], [9, 12]), ([], []), ([14], [14]), ([15], [15]), ([], []), ([17], [17]), ([18], [18]), ([16, 19, 13], [16, 19]), ([], []), ([21], [21]), ([22], [22]), ([], []), ([24], [24]), ([25], [25]), ([23, 26, 20], [23, 26]), ([6, 13, 20, 27, 27], [6, 13, 20, 27]), ([], []), ([29, 28, 28, 0, 1, 2, 3, 4, 5, 6, 7, 8, 9, 10, 11, 12, 13, 14, 15, 16, 17, 18, 19, 20, 21, 22, 23, 24, 25, 26, 27, 28, 29], [28, 29])])

def spec_Meet.B5 : List Nat := [0, 1, 3, 0, 8, 24, 63, 0, 128, 384, 0, 1024, 3072, 8191, 0, 16384, 49152, 0, 131072, 393216, 1048575, 0, 2097152, 6291456, 0, 16777216, 50331648, 134217727, 268435455, 0, 1073741823]

theorem spec_Meet.tab5 : rtab .any (opsOf Try.f20 5) = spec_Meet.T5 := by kernel_rfl

theorem spec_Meet.bits5 : waitsOk spec_Meet.T5.2 spec_Meet.B5 = true := by kernel_rfl

end Go.Proofs.Ytojfkjggpdlngaa.PFnExactWithout
