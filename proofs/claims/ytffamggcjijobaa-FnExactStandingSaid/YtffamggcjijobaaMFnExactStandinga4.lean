/- Functions of the program as Lean functions, and proofs that the Go code comes to their answers: for the law FnExactStanding; made out of the print by a program of mine (compact.py). No conditions but each theorem's own. -/
import Derived.Test.YtffamggcjijobaaMFnExactStandinga0
import Derived.Test.YtffamggcjijobaaMFnExactStandinga1
import Derived.Test.YtffamggcjijobaaMFnExactStandinga3
namespace Go.Proofs.Ytffamggcjijobaa.PFnExactStanding
open Go.RowKit Go.Proofs.YtffamggcjijobaaW.PrintWords Go.Proofs.YtffamggcjijobaaW.PrintLast Go.Proofs.YtffamggcjijobaaW.PrintMore
attribute [local go_sem] max2_int min2_int max_two min_two max_three min_three max_four min_four   -- for this text's walks alone
set_option linter.unusedVariables false
set_option linter.unusedSimpArgs false

set_option maxHeartbeats 4000000 in
set_option maxRecDepth 100000 in
theorem standing_walk (A0 : Option Addr) (c0 : Nat) (xs : List S41) (w : World) (hr : Kd.C k41 w A0 xs.length xs) (hc : xs.length ≤ c0) (hh : HistOk xs) :
    Calls Try.prog 28 #[.slice A0 xs.length c0] w fun e w' => ∃ b, e = .returned (.map (some b)) ∧ SetM Try.prog 3 4 w' b 60 (stands xs) ∧ Below w.heap.size w w' := by
  have HR := Lib.hid hr; clear hr
  obtain ⟨hl, hu⟩ := hh
  have HU := Lib.hid hu; clear hu
  have hz : ∀ W : World, (zeroValue 4).run Try.prog W = .ok (.bool false) W := fun W => by kernel_rfl
  have hmk : (Instr.makeMap 46 none).run Try.prog w = .ok (.map (some w.heap.size)) (w.alloc (.map #[] 0)) := rfl
  go_enter Try.func28, Try.ntmps28
  go_wp2_with fail
  clear hmk
  go_loopw [9] (fun v9 w' => ∃ (j : Nat), j ≤ xs.length ∧ v9 = .int .i64 j ∧ Hid (SetM Try.prog 3 4 w' w.heap.size j (fun x => decide (1 ≤ x ∧ x ≤ (j : Int)))) ∧ Hid (Below w.heap.size w w')) (fun v9 _ => xs.length - (intOf v9).toNat)
  case atStart => exact ⟨0, by omega, rfl, Lib.hid (by have := SetM.made Try.prog 3 4 w; refine (show (fun x : Int => decide (1 ≤ x ∧ x ≤ ((0 : Nat) : Int))) = (fun _ => false) from funext fun x => decide_eq_false (by omega)) ▸ this), Lib.hid (below_alloc (Below.refl _ _) _)⟩
  case round =>
    obtain ⟨j, hj, rfl, HS, HB⟩ := hrel
    by_cases hlt : j < xs.length
    · have hw1 : IntKind.i64.wrap ((j : Int) + 1) = (j : Int) + 1 := IntWalk.i64_in _ (by omega)
      have b1 : decide ((j : Int) < (xs.length : Int)) = true := decide_eq_true (by omega)
      obtain ⟨w9, hrun, hput, hgrow⟩ := SetM.put (mt := 46) HS.out Try.underlying3 Try.underlying4 Try.underlying46 (by simp only [maxLen]; omega) (wfN (x := (j : Int) + 1) (by omega) (by omega))
      rw [show (fun y : Int => decide (y = (j : Int) + 1) || decide (1 ≤ y ∧ y ≤ (j : Int))) = (fun y : Int => decide (1 ≤ y ∧ y ≤ ((j + 1 : Nat) : Int))) from funext fun y => by rw [← Bool.decide_or, decide_eq_decide]; omega] at hput
      have hbe := pw_below_grown HB.out _ (Nat.le_trans HB.out.size (Nat.le_refl _)) hgrow (fun k hk => by cases hk; exact Nat.le_refl _)
      have HBE := Lib.hid hbe; have HPUT := Lib.hid hput; clear hbe hput hgrow
      go_wp2_with fail
      go_roundw
      case rel => exact ⟨j + 1, by omega, by go_num, HPUT, HBE⟩
      case measure => simp [intOf]; omega
    · obtain rfl : j = xs.length := by omega
      have b1 : decide ((xs.length : Int) < (xs.length : Int)) = false := decide_eq_false (by omega)
      go_wp2_with fail
      refine (chain_walk A0 c0 xs _ (Kd.C_below HR.out HB.out) hc (by omega)).mono ?_; rintro e w2 ⟨p, rfl, hch, hd⟩
      have HC := Lib.hid hch; have HS2 := Lib.hid (HS.out.below hd); have HB2 := Lib.hid (below_step HB.out hd); clear hch hd
      have hstart : standFrom xs xs.length (fun x => decide (1 ≤ x ∧ x ≤ (xs.length : Int))) = stands xs := rfl
      go_wp2_with fail
      go_loopw [5] (fun v5 w' => ∃ (j : Nat) (p : Option Nat) (f : Int → Bool), j ≤ xs.length ∧ v5 = .pointer (chP p) ∧ Hid (Chain w' xs j p) ∧ Hid (SetM Try.prog 3 4 w' w.heap.size xs.length f) ∧ Hid (standFrom xs j f = stands xs) ∧ Hid (Below w.heap.size w w')) (fun v5 w' => chM v5 w')
      case atStart => exact ⟨xs.length, p, _, Nat.le_refl _, rfl, HC, HS2, Lib.hid hstart, HB2⟩
      case round =>
        clear HC HS2 HB2 hstart
        obtain ⟨j, p, f, hj, rfl, HC, HS, HF, HB⟩ := hrel
        have hm0 := chM_is j p HC.out
        cases j with
        | zero =>
          obtain rfl : p = none := HC.out
          go_wp2_with fail
          go_ret
          exact ⟨_, rfl, by have := HS.out; rw [show f = stands xs from HF.out] at this; obtain ⟨n, D, h1, h2⟩ := this; exact ⟨n, D, by omega, h2⟩, HB.out⟩
        | succ j =>
          obtain ⟨g, A, l, c, q, rfl, hg, hch⟩ := HC.out
          have hu := HU.out j (by omega)
          have hm1 : chM (.pointer (some ⟨g, 0, none⟩)) _ = j + 1 := hm0
          rw [show chP (some g) = some (⟨g, 0, none⟩ : Addr) from rfl]
          have HCH := Lib.hid hch; have HG := Lib.hid hg
          have y0 := blk_cell hg 0; have y1 := blk_cell hg 1; have y3 := blk_cell hg 3
          simp only [List.getElem?_toArray, List.getElem?_cons_zero, List.getElem?_cons_succ] at y0 y1 y3
          have hlook0 := SetM.look (mt := 46) HS.out Try.underlying3 Try.underlying4 Try.underlying46 (hz _) (wfN (x := (j : Int) + 1) (by omega) (by omega))
          generalize hU : undV xs j = u at *
          clear hch
          by_cases h1 : 0 < u
          · have b1 : decide (0 < u) = true := decide_eq_true h1
            cases hf : f ((j : Int) + 1) with
            | false =>
              rw [hf] at hlook0
              have hst : standFrom xs j f = stands xs := by have := HF.out; unfold standFrom stepF at this; rw [hU, if_neg (by rw [hf]; simp)] at this; exact this
              have HST := Lib.hid hst; clear hst hg
              go_wp2_with fail
              go_roundw
              case rel => exact ⟨j, q, f, by omega, rfl, HCH, HS, HST, HB⟩
              case measure => rw [chM_is j q HCH.out, hm1]; omega
            | true =>
              rw [hf] at hlook0
              have hst : standFrom xs j (fun y => decide (y ≠ u) && f y) = stands xs := by have := HF.out; unfold standFrom stepF at this; rw [hU, if_pos ⟨h1, hf⟩] at this; exact this
              obtain ⟨w9, hrun, hdel, hgrow⟩ := SetM.del (mt := 46) HS.out Try.underlying3 Try.underlying46 (wfN (x := u) (by omega) (by omega)) 0
              have HST := Lib.hid hst; clear hst hg
              have HDEL := Lib.hid hdel; have HC9 := Lib.hid (Chain.grown hgrow HS.out.noCells j q HCH.out); have HB9 := Lib.hid (pw_below_grown HB.out _ (Nat.le_trans HB.out.size (Nat.le_refl _)) hgrow (fun k hk => by cases hk; exact Nat.le_refl _)); have HG9 := blk_grown HG.out hgrow (by rintro ⟨rfl⟩; exact HS.out.noCells _ _ _ HG.out)
              have z3 := blk_cell HG9 3
              simp only [List.getElem?_toArray, List.getElem?_cons_zero, List.getElem?_cons_succ] at z3
              clear hdel hgrow HG9
              go_wp2_with fail
              go_roundw
              case rel => exact ⟨j, q, _, by omega, rfl, HC9, HDEL, HST, HB9⟩
              case measure => rw [chM_is j q HC9.out, hm1]; omega
          · have b1 : decide (0 < u) = false := decide_eq_false h1
            have hst : standFrom xs j f = stands xs := by have := HF.out; unfold standFrom stepF at this; rw [hU, if_neg (fun h => h1 h.1)] at this; exact this
            have HST := Lib.hid hst; clear hst hg
            go_wp2_with fail
            go_roundw
            case rel => exact ⟨j, q, f, by omega, rfl, HCH, HS, HST, HB⟩
            case measure => rw [chM_is j q HCH.out, hm1]; omega

/-- What stands, told as a list. -/
def standL (f : Int → Bool) (n : Nat) : List Bool := (List.range n).map fun i : Nat => f ((i : Int) + 1)

theorem standL_len (f : Int → Bool) (n : Nat) : (standL f n).length = n := by unfold standL; simp

def impl_Standing.f (l0 : List S41) : Option (List Bool) := (impl_asSaid.f 10000 l0).bind fun ok => if ok = true then (if histOkB l0 = true then some (standL (stands l0) l0.length) else none) else some []

/-- The row of answers, its first i told. -/
def RowS (w : World) (g n i : Nat) (f : Int → Bool) : Prop := ∃ cs : Array Value, w.heap[g]? = some (.cells cs 4 (0, 0)) ∧ cs.size = n ∧ (∀ j, j < i → cs[j]? = some (.bool (f ((j : Int) + 1)))) ∧ ∀ j, j < n → ∃ b, cs[j]? = some (.bool b)

theorem RowS.put {w : World} {g n i : Nat} {f : Int → Bool} (h : RowS w g n i f) (hi : i < n) : RowS (w.setCell ⟨g, i, none⟩ (.bool (f ((i : Int) + 1)))) g n (i + 1) f := by
  obtain ⟨cs, h1, h2, h3, h4⟩ := h
  have hsz : ∀ j, (cs.setIfInBounds i (Value.bool (f ((i : Int) + 1))))[j]? = if i = j ∧ i < cs.size then some (.bool (f ((i : Int) + 1))) else cs[j]? := fun j => by
    rw [Array.getElem?_setIfInBounds]
    by_cases e : i = j
    · subst e; by_cases q : i < cs.size <;> simp [q]
    · simp [e]
  refine ⟨cs.setIfInBounds i (.bool (f ((i : Int) + 1))), by simp [World.setCell, Array.getElem?_modify, h1], by rw [Array.size_setIfInBounds]; exact h2, fun j hj => ?_, fun j hj => ?_⟩
  · rw [hsz]
    by_cases e : i = j
    · subst e; rw [if_pos ⟨rfl, by omega⟩]
    · rw [if_neg (fun q => e q.1)]; exact h3 j (by omega)
  · rw [hsz]
    by_cases e : i = j ∧ i < cs.size
    · rw [if_pos e]; exact ⟨_, rfl⟩
    · rw [if_neg e]; exact h4 j hj

theorem RowS.below {w w' : World} {g n i : Nat} {f : Int → Bool} (h : RowS w g n i f) (hb : Below w.heap.size w w') : RowS w' g n i f := by
  obtain ⟨cs, h1, h2, h3, h4⟩ := h
  exact ⟨cs, blk_below h1 hb, h2, h3, h4⟩

theorem RowS.cell {w : World} {g n i : Nat} {f : Int → Bool} (h : RowS w g n i f) {j : Nat} (hj : j < n) : (∃ b, w.cell? ⟨g, j, none⟩ = some (.bool b)) ∧ w.frozen? ⟨g, j, none⟩ = false := by
  obtain ⟨cs, h1, h2, h3, h4⟩ := h
  obtain ⟨b, hb⟩ := h4 j hj
  exact ⟨⟨b, (blk_cell h1 j).trans hb⟩, blk_frozen h1 j⟩

theorem RowS.done {w : World} {g n base : Nat} {f : Int → Bool} (h : RowS w g n n f) (hb : base ≤ g) (hn : n ≤ 1000) : Kd.R Kd.bool 4 w base (fun _ => True) (.slice (some ⟨g, 0, none⟩) n n) (standL f n) := by
  obtain ⟨cs, h1, h2, h3, h4⟩ := h
  refine Kd.R_of_own ⟨by rw [standL_len]; simp [encs, standL_len], .inr ⟨g, n, cs, by rw [standL_len], hb, h1, by rw [standL_len]; exact Nat.le_refl _, by simp only [maxLen]; omega, by omega, ?_⟩⟩ (fun _ _ => trivial)
  rw [standL_len, Nat.mul_one]
  refine List.ext_getElem? fun j => ?_
  rw [List.getElem?_take]
  by_cases hj : j < n
  · rw [if_pos hj, Array.getElem?_toList, h3 j hj]
    unfold standL encs
    rw [List.getElem?_map, List.getElem?_map, List.getElem?_range hj]; rfl
  · rw [if_neg hj, List.getElem?_eq_none (by simp [encs, standL_len]; omega)]

set_option maxHeartbeats 8000000 in
set_option maxRecDepth 100000 in
theorem Standing_walk (A0 : Option Addr) (c0 : Nat) (xs : List S41) (w : World) (hr : Kd.C k41 w A0 xs.length xs) (hc : xs.length ≤ c0) (hh : HistOk xs) (hs : impl_asSaid.f 10000 xs = some true) :
    Calls Try.prog 14 #[.slice A0 xs.length c0] w fun e w' => ∃ v0_ : Value, e = .returned (v0_) ∧ Kd.R Kd.bool 4 w' w.heap.size (fun _ => True) v0_ (standL (stands xs) xs.length) ∧ Below w.heap.size w w' := by
  have HR := Lib.hid hr; have HH := Lib.hid hh; have HS := Lib.hid hs; clear hr hs
  obtain ⟨hl, hu⟩ := hh
  clear hu
  have hz : ∀ W : World, (zeroValue 4).run Try.prog W = .ok (.bool false) W := fun W => by kernel_rfl
  obtain ⟨Z, hZ⟩ : ∃ Z : Array Value, Z = madeCells #[.bool false] xs.length := ⟨_, rfl⟩
  have hZs : Z.size = xs.length := by rw [hZ, size_madeCells]
  have hZb : ∀ j, j < xs.length → ∃ b, Z[j]? = some (.bool b) := fun j hj => ⟨false, by
    rw [hZ, ← Array.getElem?_toList, toList_madeCells_one, List.getElem?_replicate, if_pos hj]⟩
  have hmk : ∀ W : World, (Instr.makeSlice 29 (.int .i64 (xs.length : Int)) (.int .i64 (xs.length : Int))).run Try.prog W = .ok (.slice (some ⟨W.heap.size, 0, none⟩) xs.length xs.length) (W.alloc (.cells Z 4)) := by
    intro W
    have hi : ∃ i, Try.prog.info? 4 = some i ∧ i.zero = some (.bool false) ∧ i.size = 1 ∧ i.bytes = 1 := by
      have h_ : (Try.prog.info? 4).map (fun i => (i.zero, i.size, i.bytes)) = some (some (.bool false), 1, 1) := by kernel_rfl
      obtain ⟨i, hi, he⟩ := Option.map_eq_some_iff.1 h_
      simp only [Prod.mk.injEq] at he
      exact ⟨i, hi, he.1, he.2.1, he.2.2⟩
    obtain ⟨i4, hi4, hz4, hs4, hb4⟩ := hi
    have := run_make (P := Try.prog) W 29 4 i4 (.bool false) Try.underlying29 hi4 hz4 .i64 .i64 (xs.length : Int) (xs.length : Int) (by omega) (by omega) (by rw [hb4]; omega) (by omega)
    rw [this, hs4, hZ]; simp; rfl
  have HZS := Lib.hid hZs; have HZB := Lib.hid hZb
  clear hZ hZs hZb
  go_enter Try.func14, Try.ntmps14
  go_wp2_with fail
  refine (impl_asSaid.calls 10000 A0 c0 xs true w HR.out hc HS.out).mono ?_; rintro e w1 ⟨rfl, hd⟩
  have HB1 := Lib.hid hd; clear hd
  go_wp2_with fail
  refine (standing_walk A0 c0 xs w1 (Kd.C_below HR.out HB1.out) hc HH.out).mono ?_; rintro e w2 ⟨b, rfl, hset, hd⟩
  have HB2 := Lib.hid (below_step HB1.out hd); have HM2 := Lib.hid hset; clear hd hset
  have HB3 := Lib.hid (below_alloc HB2.out (.cells Z 4))
  have HM3 := Lib.hid (HM2.out.below (below_alloc (Below.refl _ _) (.cells Z 4)))
  have HR3 := Lib.hid (show RowS (w2.alloc (.cells Z 4)) w2.heap.size xs.length 0 (stands xs) from ⟨Z, blk_new w2 _, HZS.out, fun j hj => absurd hj (Nat.not_lt_zero j), HZB.out⟩)
  have HG := Lib.hid (HB2.out.size); have HLT := Lib.hid HM2.out.lt
  go_wp2_with fail
  clear hmk
  go_loopw [16] (fun v16 w' => ∃ (j : Nat), j ≤ xs.length ∧ v16 = .int .i64 j ∧ Hid (RowS w' w2.heap.size xs.length j (stands xs)) ∧ Hid (SetM Try.prog 3 4 w' b 60 (stands xs)) ∧ Hid (Below w.heap.size w w')) (fun v16 _ => xs.length - (intOf v16).toNat)
  case atStart => exact ⟨0, by omega, rfl, HR3, HM3, HB3⟩
  case round =>
    clear HR3 HM3 HB3 HB2 HM2 HB1
    obtain ⟨j, hj, rfl, HRW, HM, HB⟩ := hrel
    by_cases hlt : j < xs.length
    · have b1 : decide ((j : Int) < (xs.length : Int)) = true := decide_eq_true (by omega)
      have hw1 : IntKind.i64.wrap ((j : Int) + 1) = (j : Int) + 1 := IntWalk.i64_in _ (by omega)
      have p1 : (0 ≤ (j : Int)) = True := eq_true (by omega)
      have p2 : ((j : Int) < (xs.length : Int)) = True := eq_true (by omega)
      have hlook0 := SetM.look (mt := 46) HM.out Try.underlying3 Try.underlying4 Try.underlying46 (hz _) (wfN (x := (j : Int) + 1) (by omega) (by omega))
      obtain ⟨⟨b0, y0⟩, f0⟩ := HRW.out.cell hlt
      have HR2 := Lib.hid (HRW.out.put hlt)
      have HB2 : Hid (Below w.heap.size w (wr.setCell ⟨w2.heap.size, j, none⟩ (.bool (stands xs ((j : Int) + 1))))) := Lib.hid (below_set HB.out HG.out)
      have hne : some b ≠ some w2.heap.size := fun e => absurd (Option.some.inj e) (Nat.ne_of_lt HLT.out)
      have HM2 := Lib.hid (HM.out.kept (w' := wr.setCell ⟨w2.heap.size, j, none⟩ (.bool (stands xs ((j : Int) + 1)))) (row := some w2.heap.size) ⟨rfl, rfl, rfl, by simp [World.setCell], fun k _ hk => Below.heap_setCell _ _ _ k (fun e => hk (by rw [e]))⟩ hne)
      clear hne
      go_wp2_with fail
      go_roundw
      case rel => exact ⟨j + 1, by omega, by go_num, HR2, HM2, HB2⟩
      case measure => simp [intOf]; omega
    · obtain rfl : j = xs.length := by omega
      have b1 : decide ((xs.length : Int) < (xs.length : Int)) = false := decide_eq_false (by omega)
      go_wp2_with fail
      go_ret
      exact ⟨_, rfl, HRW.out.done HG.out (by omega), HB.out⟩

set_option maxHeartbeats 4000000 in
theorem Standing_no (A0 : Option Addr) (c0 : Nat) (xs : List S41) (w : World) (hr : Kd.C k41 w A0 xs.length xs) (hc : xs.length ≤ c0) (hs : impl_asSaid.f 10000 xs = some false) :
    Calls Try.prog 14 #[.slice A0 xs.length c0] w fun e w' => ∃ v0_ : Value, e = .returned (v0_) ∧ Kd.R Kd.bool 4 w' w.heap.size (fun _ => True) v0_ [] ∧ Below w.heap.size w w' := by
  have HR := Lib.hid hr; have HS := Lib.hid hs; clear hr hs
  go_enter Try.func14, Try.ntmps14
  go_wp2_with fail
  refine (impl_asSaid.calls 10000 A0 c0 xs false w HR.out hc HS.out).mono ?_; rintro e w1 ⟨rfl, hd⟩
  have HB1 := Lib.hid hd; clear hd
  go_wp2_with fail
  go_ret
  exact ⟨_, rfl, Kd.R_nil _ _ _ _ _, HB1.out⟩

theorem impl_Standing.calls (A0 : Option Addr) (c0 : Nat) (l0 : List S41) (r : List Bool) (w : World) (hr0 : Kd.C k41 w A0 l0.length l0) (hc0 : l0.length ≤ c0) (h : impl_Standing.f l0 = some r) :
    Calls Try.prog 14 #[.slice A0 l0.length c0] w fun e w' => ∃ v0_ : Value, e = .returned (v0_) ∧ Kd.R Kd.bool 4 w' w.heap.size (fun _ => True) v0_ r ∧ Below w.heap.size w w' := by
  unfold impl_Standing.f at h
  obtain ⟨ok, hok, h⟩ := Option.bind_eq_some_iff.1 h
  cases ok with
  | false =>
    rw [if_neg (by simp)] at h
    obtain rfl := Option.some.inj h
    exact Standing_no A0 c0 l0 w hr0 hc0 hok
  | true =>
    rw [if_pos rfl] at h
    by_cases hh : histOkB l0 = true
    · rw [if_pos hh] at h
      have h_ : l0.length ≤ 60 ∧ ∀ i, i < l0.length → 0 ≤ undV l0 i ∧ undV l0 i ≤ (i : Int) := of_decide_eq_true hh
      have hh : HistOk l0 := h_
      obtain rfl := Option.some.inj h
      exact Standing_walk A0 c0 l0 w hr0 hc0 hh hok
    · rw [if_neg hh] at h; cases h



/-! ### laws_eqBoolS: function 15 -/

def laws_eqBoolS.l0 : Nat → List Bool → List Bool → Int → Option (Bool)
  | 0, _, _, _ => none
  | k + 1, x0, x1, x5 => if x5 < (x0.length : Int) then (if 0 ≤ x5 then (if x5 < (x1.length : Int) then (if ((rdOf false x0 x5) != (rdOf false x1 x5)) = true then (some false) else (laws_eqBoolS.l0 k x0 x1 (wrap64 (x5 + 1)))) else (none)) else (none)) else (some true)

def laws_eqBoolS.f (k : Nat) (l0 : List Bool) (l1 : List Bool) : Option (Bool) := if (l0.length : Int) = (l1.length : Int) then (laws_eqBoolS.l0 k l0 l1 0) else (some false)

theorem laws_eqBoolS.mono_l : ∀ k, (∀ y0 y1 y2, LeO (laws_eqBoolS.l0 k y0 y1 y2) (laws_eqBoolS.l0 (k + 1) y0 y1 y2))
  | 0 => fun _ _ _ r h => by simp [laws_eqBoolS.l0] at h
  | k + 1 => by
    have ih0 := laws_eqBoolS.mono_l k
    · intro y0 y1 y2
      unfold laws_eqBoolS.l0
      repeat' first
      | (with_reducible exact ih0 _ _ _)
      | (with_reducible exact LeO.refl _)
      | (with_reducible exact LeO.none _)
      | (with_reducible refine LeO.ite ?_ ?_)
      | (with_reducible refine LeO.bind ?_ (fun _ => ?_))
      | exact ih0 _ _ _
      | exact LeO.none _
      | refine LeO.ite ?_ ?_
      | refine LeO.bind ?_ (fun _ => ?_)

theorem laws_eqBoolS.mono : ∀ a0 a1 k, LeO (laws_eqBoolS.f k a0 a1) (laws_eqBoolS.f (k + 1) a0 a1) := by
  intro a0 a1 k
  have ih0 := laws_eqBoolS.mono_l k
  unfold laws_eqBoolS.f
  repeat' first
      | (with_reducible exact ih0 _ _ _)
      | (with_reducible exact LeO.refl _)
      | (with_reducible exact LeO.none _)
      | (with_reducible refine LeO.ite ?_ ?_)
      | (with_reducible refine LeO.bind ?_ (fun _ => ?_))
      | exact ih0 _ _ _
      | exact LeO.none _
      | refine LeO.ite ?_ ?_
      | refine LeO.bind ?_ (fun _ => ?_)

set_option maxHeartbeats 8000000 in
set_option maxRecDepth 100000 in
theorem laws_eqBoolS.calls (k : Nat) (A0 : Option Addr) (c0 : Nat) (l0 : List Bool) (A1 : Option Addr) (c1 : Nat) (l1 : List Bool) (r : Bool) (w : World) (hr0 : Kd.C Kd.bool w A0 l0.length l0) (hc0 : l0.length ≤ c0) (hr1 : Kd.C Kd.bool w A1 l1.length l1) (hc1 : l1.length ≤ c1) (h : laws_eqBoolS.f k l0 l1 = some r) :
    Calls Try.prog 15 #[.slice A0 l0.length c0, .slice A1 l1.length c1] w fun e w' => e = .returned (.bool r) ∧ Drawn0 w w' := by
  have HR0 := Aside0.mk hr0
  have HC0 := Aside0.mk hc0
  clear hr0 hc0
  have HR1 := Aside0.mk hr1
  have HC1 := Aside0.mk hc1
  clear hr1 hc1
  have H : (if (l0.length : Int) = (l1.length : Int) then (laws_eqBoolS.l0 k l0 l1 0) else (some false)) = some r := h
  clear h
  by_cases c3 : (l0.length : Int) = (l1.length : Int)
  · rw [if_pos c3] at H
    have c3b0 : ((l0.length : Int) == (l1.length : Int)) = true := beq_iff_eq.mpr c3
    have c3b1 : ((l0.length : Int) != (l1.length : Int)) = false := bne_eq_false_iff_eq.mpr c3
    have c3b2 : (l0.length == l1.length) = true := by first | simpa using c3 | (simp at c3 ⊢; omega)
    clear c3
    have H' := Aside0.mk H
    clear H
    go_enter Try.func15, Try.ntmps15
    go_wp2
    repeat (go_quiet (fail); try go_wp2)
    go_loopg [5] k (fun kq v5 w' => ∃ (x5_1 : Int), v5 = .int .i64 x5_1 ∧ Aside0 (laws_eqBoolS.l0 kq l0 l1 x5_1 = some r) ∧ Aside0 (kq ≤ k) ∧ Drawn0 w w')
    case atStart => exact ⟨(0), (by first | rfl | (simp; done) | (simp [*]; done) | (simp; unfold wrap64; omega)), H', ⟨Nat.le_refl _⟩, by repeat (first | exact Drawn0.refl _ | apply Drawn0.step)⟩
    case round =>
      clear H'
      try clear c1
      try clear p2
      try clear c3
      try clear c3b0
      try clear c3b1
      try clear c3b2
      obtain ⟨x5_1, rfl, HA, HK1, ⟨m1, rfl⟩⟩ := hrel
      cases gk with
      | zero => exact absurd HA.out (by simp [laws_eqBoolS.l0])
      | succ k1 =>
        have H := HA.out
        clear HA
        simp only [laws_eqBoolS.l0] at H
        by_cases c4 : x5_1 < (l0.length : Int)
        · rw [if_pos c4] at H
          have c4b0 : decide (x5_1 < (l0.length : Int)) = true := decide_eq_true c4
          clear c4
          by_cases c5 : 0 ≤ x5_1
          · rw [if_pos c5] at H
            have c5b0 : decide (0 ≤ x5_1) = true := decide_eq_true c5
            clear c5
            by_cases c6 : x5_1 < (l1.length : Int)
            · rw [if_pos c6] at H
              have c6b0 : decide (x5_1 < (l1.length : Int)) = true := decide_eq_true c6
              clear c6
              by_cases c7 : ((rdOf false l0 x5_1) != (rdOf false l1 x5_1)) = true
              · rw [if_pos c7] at H
                have c7b0 : ((rdOf false l0 x5_1) != (rdOf false l1 x5_1)) = true := c7
                (try (have c7b1 : decide ((rdOf false l0 x5_1) = (rdOf false l1 x5_1)) = false := by simpa using c7))
                (try (have c7b2 : ((rdOf false l0 x5_1) == (rdOf false l1 x5_1)) = false := by simpa using c7))
                (try (have c7b3 : ¬ ((rdOf false l0 x5_1) = (rdOf false l1 x5_1)) := by simpa using c7))
                clear c7
                obtain rfl := Option.some.inj H
                have p172 : 0 ≤ (x5_1 : Int) := of_decide_eq_true (by first | (with_reducible assumption) | assumption)
                have q172 : x5_1 < (l0.length : Int) := of_decide_eq_true (by first | (with_reducible assumption) | assumption)
                obtain ⟨ad172, e172, hx172_0⟩ := Kd.at_bool HR0.out x5_1 p172 q172
                cases e172
                replace p172 := eq_true p172
                replace q172 := eq_true q172
                have p173 : 0 ≤ (x5_1 : Int) := of_decide_eq_true (by first | (with_reducible assumption) | assumption)
                have q173 : x5_1 < (l1.length : Int) := of_decide_eq_true (by first | (with_reducible assumption) | assumption)
                obtain ⟨ad173, e173, hx173_0⟩ := Kd.at_bool HR1.out x5_1 p173 q173
                cases e173
                replace p173 := eq_true p173
                replace q173 := eq_true q173
                go_wp2
                repeat (go_quiet (fail); try go_wp2)
                go_ret
                exact ⟨by first | rfl | (simp; done) | (simp [*]; done), by repeat (first | exact Drawn0.refl _ | apply Drawn0.step)⟩
              · rw [if_neg c7] at H
                have c7b0 : ((rdOf false l0 x5_1) != (rdOf false l1 x5_1)) = false := by simpa using c7
                (try (have c7b1 : decide ((rdOf false l0 x5_1) = (rdOf false l1 x5_1)) = true := by simpa using c7))
                (try (have c7b2 : ((rdOf false l0 x5_1) == (rdOf false l1 x5_1)) = true := by simpa using c7))
                clear c7
                have H' := Aside0.mk H
                clear H
                have p172 : 0 ≤ (x5_1 : Int) := of_decide_eq_true (by first | (with_reducible assumption) | assumption)
                have q172 : x5_1 < (l0.length : Int) := of_decide_eq_true (by first | (with_reducible assumption) | assumption)
                obtain ⟨ad172, e172, hx172_0⟩ := Kd.at_bool HR0.out x5_1 p172 q172
                cases e172
                replace p172 := eq_true p172
                replace q172 := eq_true q172
                have p173 : 0 ≤ (x5_1 : Int) := of_decide_eq_true (by first | (with_reducible assumption) | assumption)
                have q173 : x5_1 < (l1.length : Int) := of_decide_eq_true (by first | (with_reducible assumption) | assumption)
                obtain ⟨ad173, e173, hx173_0⟩ := Kd.at_bool HR1.out x5_1 p173 q173
                cases e173
                replace p173 := eq_true p173
                replace q173 := eq_true q173
                go_wp2
                repeat (go_quiet (fail); try go_wp2)
                go_roundg k1
                case measure => have := HK1.out; omega
                case rel => exact ⟨(wrap64 (x5_1 + 1)), (by first | rfl | (simp; done) | (simp [*]; done) | (simp; unfold wrap64; omega)), H', ⟨by have := HK1.out; omega⟩, by repeat (first | exact Drawn0.refl _ | apply Drawn0.step)⟩
            · rw [if_neg c6] at H
              exact absurd H (by simp)
          · rw [if_neg c5] at H
            exact absurd H (by simp)
        · rw [if_neg c4] at H
          have c4b0 : decide (x5_1 < (l0.length : Int)) = false := decide_eq_false c4
          clear c4
          obtain rfl := Option.some.inj H
          go_wp2
          repeat (go_quiet (fail); try go_wp2)
          go_ret
          exact ⟨by first | rfl | (simp; done) | (simp [*]; done), by repeat (first | exact Drawn0.refl _ | apply Drawn0.step)⟩
  · rw [if_neg c3] at H
    have c3b0 : ((l0.length : Int) == (l1.length : Int)) = false := beq_eq_false_iff_ne.mpr c3
    have c3b1 : ((l0.length : Int) != (l1.length : Int)) = true := bne_iff_ne.mpr c3
    have c3b2 : (l0.length == l1.length) = false := by first | simpa using c3 | (simp at c3 ⊢; omega)
    obtain rfl := Option.some.inj H
    go_enter Try.func15, Try.ntmps15
    go_wp2
    repeat (go_quiet (fail); try go_wp2)
    go_ret
    exact ⟨by first | rfl | (simp; done) | (simp [*]; done), by repeat (first | exact Drawn0.refl _ | apply Drawn0.step)⟩



/-! ### laws_markText: function 36 -/

def laws_markText.l0 : Nat → Int → ByteArray → Option (ByteArray)
  | 0, _, _ => none
  | k + 1, x0, x3 => if x0 > 0 then ((some (([(wrap64 (48 + (Int.tmod x0 10))) % 256] : List Int) : List Int)).bind fun y174 => (if (strOfNums y174).size + x3.size ≤ 9223372036854775807 then (laws_markText.l0 k (wrap64 (Int.tdiv x0 10)) ((strOfNums y174) ++ x3)) else (none))) else (if 1 + x3.size ≤ 9223372036854775807 then (some ((⟨#[109]⟩ : ByteArray) ++ x3)) else (none))

def laws_markText.f (k : Nat) (a0 : Int) : Option (ByteArray) := if a0 ≤ 0 then (some (⟨#[109, 48]⟩ : ByteArray)) else (laws_markText.l0 k a0 (⟨#[]⟩ : ByteArray))

theorem laws_markText.mono_l : ∀ k, (∀ y0 y1, LeO (laws_markText.l0 k y0 y1) (laws_markText.l0 (k + 1) y0 y1))
  | 0 => fun _ _ r h => by simp [laws_markText.l0] at h
  | k + 1 => by
    have ih0 := laws_markText.mono_l k
    · intro y0 y1
      unfold laws_markText.l0
      repeat' first
      | (with_reducible exact ih0 _ _)
      | (with_reducible exact LeO.refl _)
      | (with_reducible exact LeO.none _)
      | (with_reducible refine LeO.ite ?_ ?_)
      | (with_reducible refine LeO.bind ?_ (fun _ => ?_))
      | exact ih0 _ _
      | exact LeO.none _
      | refine LeO.ite ?_ ?_
      | refine LeO.bind ?_ (fun _ => ?_)

theorem laws_markText.mono : ∀ a0 k, LeO (laws_markText.f k a0) (laws_markText.f (k + 1) a0) := by
  intro a0 k
  have ih0 := laws_markText.mono_l k
  unfold laws_markText.f
  repeat' first
      | (with_reducible exact ih0 _ _)
      | (with_reducible exact LeO.refl _)
      | (with_reducible exact LeO.none _)
      | (with_reducible refine LeO.ite ?_ ?_)
      | (with_reducible refine LeO.bind ?_ (fun _ => ?_))
      | exact ih0 _ _
      | exact LeO.none _
      | refine LeO.ite ?_ ?_
      | refine LeO.bind ?_ (fun _ => ?_)

set_option maxHeartbeats 8000000 in
set_option maxRecDepth 100000 in
theorem laws_markText.calls (k : Nat) (a0 : Int) (r : ByteArray) (w : World) (h : laws_markText.f k a0 = some r) :
    Calls Try.prog 36 #[.int .i64 a0] w fun e w' => e = .returned (.string r) ∧ Below w.heap.size w w' := by
  have HB := Aside0.mk (Below.refl w.heap.size w)
  have H : (if a0 ≤ 0 then (some (⟨#[109, 48]⟩ : ByteArray)) else (laws_markText.l0 k a0 (⟨#[]⟩ : ByteArray))) = some r := h
  clear h
  by_cases c2 : a0 ≤ 0
  · rw [if_pos c2] at H
    have c2b0 : decide (a0 ≤ 0) = true := decide_eq_true c2
    clear c2
    obtain rfl := Option.some.inj H
    go_enter Try.func36, Try.ntmps36
    go_wp2
    go_ret
    exact ⟨by first | rfl | (simp [errW_none, errW_some] <;> rfl) | (simp [*, errW_none, errW_some] <;> rfl), by repeat (first | (with_reducible first | exact HB.out | apply below_alloc | apply pw_below_drewN | apply below_drew1) | exact HB.out)⟩
  · rw [if_neg c2] at H
    have c2b0 : decide (a0 ≤ 0) = false := decide_eq_false c2
    clear c2
    have H' := Aside0.mk H
    clear H
    go_enter Try.func36, Try.ntmps36
    go_wp2
    go_loopg [0, 3] k (fun kq v0 v3 w' => ∃ (x0_1 : Int) (x3_1 : ByteArray), v0 = .int .i64 x0_1 ∧ v3 = .string x3_1 ∧ Aside0 (laws_markText.l0 kq x0_1 x3_1 = some r) ∧ Aside0 (kq ≤ k) ∧ Aside0 (Below w.heap.size w w'))
    case atStart => exact ⟨(a0), ((⟨#[]⟩ : ByteArray)), (by first | rfl | (simp; done) | (simp [*]; done) | (simp; unfold wrap64; omega)), (by first | rfl | (simp; done) | (simp [*]; done) | (simp; unfold wrap64; omega)), H', ⟨Nat.le_refl _⟩, ⟨by repeat (first | (with_reducible first | exact HB.out | apply below_alloc | apply pw_below_drewN | apply below_drew1) | exact HB.out)⟩⟩
    case round =>
      clear H'
      try clear c2
      try clear c2b0
      try clear p2
      obtain ⟨x0_1, x3_1, rfl, rfl, HA, HK1, HB⟩ := hrel
      cases gk with
      | zero => exact absurd HA.out (by simp [laws_markText.l0])
      | succ k1 =>
        have H := HA.out
        clear HA
        simp only [laws_markText.l0] at H
        by_cases c3 : x0_1 > 0
        · rw [if_pos c3] at H
          have c3b0 : decide (0 < x0_1) = true := decide_eq_true c3
          clear c3
          obtain ⟨y174, hy174⟩ : ∃ y_ : List Int, y_ = (([(wrap64 (48 + (Int.tmod x0_1 10))) % 256] : List Int)) := ⟨_, rfl⟩
          replace H : (if (strOfNums y174).size + x3_1.size ≤ 9223372036854775807 then (laws_markText.l0 k1 (wrap64 (Int.tdiv x0_1 10)) ((strOfNums y174) ++ x3_1)) else (none)) = some r := by first | (rw [hy174]; with_reducible exact H) | (have H2_ := (Option.bind_some _ _).symm.trans H; rw [hy174]; with_reducible exact H2_) | (have H2_ := (Option.bind_some _ _).symm.trans H; with_reducible exact H2_) | with_reducible exact H | (rw [hy174]; exact H) | exact H
          have Ny174 := Aside0.mk hy174
          clear hy174
          by_cases c4 : (strOfNums y174).size + x3_1.size ≤ 9223372036854775807
          · rw [if_pos c4] at H
            have c4b0 := eq_true c4
            have c4b1 : decide ((strOfNums y174).size + x3_1.size ≤ 9223372036854775807) = true := decide_eq_true c4
            try have c4b2 : (9223372036854775807 < (strOfNums y174).size + x3_1.size) = False := eq_false (Nat.not_lt.2 c4)
            have H' := Aside0.mk H
            clear H
            go_wp2_with (first | ((with_reducible refine gate_dst (N := 12) rfl ?_); refine Kd.R_lit (Kd.int .u8) _ 5 ?hg (N := 12) ?hd (xs := ([(wrap64 (48 + (Int.tmod x0_1 10))) % 256] : List Int)) (inner := [.int .u8 ((wrap64 (48 + (Int.tmod x0_1 10))) % 256)]) (ok := fun _ => True) (okp := fun _ => True) ?hr ?hp (fun _ hk => hk) trivial (Below.refl _ _) (Nat.le_refl _) (by simp) ?_; (case hd => rfl); (case hg => rfl); (case hr => first | (go_simp; done) | (go_simp; rfl)); (case hp => exact (Reps.one (show Kd.M (Kd.int .u8) _ _ _ ((wrap64 (48 + (Int.tmod x0_1 10))) % 256) [.int .u8 ((wrap64 (48 + (Int.tmod x0_1 10))) % 256)] from rfl) (Reps.none _ _))); intro v175 w5 ho6 hb hg_ hnew_; clear hg_ hnew_; (first | rw [← Ny174.out] at ho6 | (simp only [Int.reduceToNat] at ho6; rw [← Ny174.out] at ho6)); have n0_ := Aside0.mk (Kd.R_lower ho6 (below_size (by repeat (first | (with_reducible first | exact HB.out | apply below_alloc | apply pw_below_drewN | apply below_drew1) | exact HB.out)))); have n1_ := Aside0.mk (below_step (by repeat (first | (with_reducible first | exact HB.out | apply below_alloc | apply pw_below_drewN | apply below_drew1) | exact HB.out)) hb); clear HB; have HO176 := n0_; have HB := n1_; clear n0_ n1_; clear hb ho6; have hcv7 := own_string (P := Try.prog) Try.underlying70 Try.underlying5 Try.underlying9 (Kd.own_of_R HO176.out)))
            go_roundg k1
            case measure => have := HK1.out; omega
            case rel => exact ⟨(wrap64 (Int.tdiv x0_1 10)), ((strOfNums y174) ++ x3_1), (by first | rfl | (simp; done) | (simp [*]; done) | (simp; unfold wrap64; omega)), (by first | rfl | (simp; done) | (simp [*]; done) | (simp; unfold wrap64; omega)), H', ⟨by have := HK1.out; omega⟩, ⟨by repeat (first | (with_reducible first | exact HB.out | apply below_alloc | apply pw_below_drewN | apply below_drew1) | exact HB.out)⟩⟩
          · rw [if_neg c4] at H
            exact absurd H (by simp)
        · rw [if_neg c3] at H
          have c3b0 : decide (0 < x0_1) = false := decide_eq_false c3
          clear c3
          by_cases c8 : 1 + x3_1.size ≤ 9223372036854775807
          · rw [if_pos c8] at H
            have c8b0 := eq_true c8
            have c8b1 : decide (1 + x3_1.size ≤ 9223372036854775807) = true := decide_eq_true c8
            try have c8b2 : (9223372036854775807 < 1 + x3_1.size) = False := eq_false (Nat.not_lt.2 c8)
            obtain rfl := Option.some.inj H
            go_wp2
            go_ret
            exact ⟨by first | rfl | (simp [errW_none, errW_some] <;> rfl) | (simp [*, errW_none, errW_some] <;> rfl), by repeat (first | (with_reducible first | exact HB.out | apply below_alloc | apply pw_below_drewN | apply below_drew1) | exact HB.out)⟩
          · rw [if_neg c8] at H
            exact absurd H (by simp)



/-! ### laws_markChangeS: function 29 -/

def laws_markChangeS.l0 : Nat → List (S51) → Int → Int → Option (Int × (List (S51)))
  | 0, _, _, _ => none
  | k + 1, x0, x1, x5 => if x5 < (x0.length : Int) then (if 0 ≤ x5 then ((some (x0.set (x5 : Int).toNat (⟨x1, (rd_T51 x0 x5).f1, (rd_T51 x0 x5).f2⟩ : S51) : List (S51))).bind fun y177 => ((some (y177.set (x5 : Int).toNat (⟨(rd_T51 y177 x5).f0, wrap64 (x1 + 1), (rd_T51 y177 x5).f2⟩ : S51) : List (S51))).bind fun y178 => ((laws_markText.f k (wrap64 ((wrap64 (x1 + 1)) + 1))).bind fun t179 => (laws_markChangeS.l0 k (y178.set (x5 : Int).toNat (⟨(rd_T51 y178 x5).f0, (rd_T51 y178 x5).f1, t179⟩ : S51)) (wrap64 ((wrap64 ((wrap64 (x1 + 1)) + 1)) + 1)) (wrap64 (x5 + 1)))))) else (none)) else (some (x1, x0))

def laws_markChangeS.f (k : Nat) (l0 : List (S51)) (a1 : Int) : Option (Int × (List (S51))) := laws_markChangeS.l0 k l0 a1 0

theorem laws_markChangeS.mono_l : ∀ k, (∀ y0 y1 y2, LeO (laws_markChangeS.l0 k y0 y1 y2) (laws_markChangeS.l0 (k + 1) y0 y1 y2))
  | 0 => fun _ _ _ r h => by simp [laws_markChangeS.l0] at h
  | k + 1 => by
    have ih0 := laws_markChangeS.mono_l k
    · intro y0 y1 y2
      unfold laws_markChangeS.l0
      repeat' first
      | (with_reducible exact ih0 _ _ _)
      | (with_reducible exact laws_markText.mono _ _)
      | (with_reducible exact LeO.refl _)
      | (with_reducible exact LeO.none _)
      | (with_reducible refine LeO.ite ?_ ?_)
      | (with_reducible refine LeO.bind ?_ (fun _ => ?_))
      | exact ih0 _ _ _
      | exact laws_markText.mono _ _
      | exact LeO.none _
      | refine LeO.ite ?_ ?_
      | refine LeO.bind ?_ (fun _ => ?_)

theorem laws_markChangeS.mono : ∀ a0 a1 k, LeO (laws_markChangeS.f k a0 a1) (laws_markChangeS.f (k + 1) a0 a1) := by
  intro a0 a1 k
  have ih0 := laws_markChangeS.mono_l k
  unfold laws_markChangeS.f
  repeat' first
      | (with_reducible exact ih0 _ _ _)
      | (with_reducible exact laws_markText.mono _ _)
      | (with_reducible exact LeO.refl _)
      | (with_reducible exact LeO.none _)
      | (with_reducible refine LeO.ite ?_ ?_)
      | (with_reducible refine LeO.bind ?_ (fun _ => ?_))
      | exact ih0 _ _ _
      | exact laws_markText.mono _ _
      | exact LeO.none _
      | refine LeO.ite ?_ ?_
      | refine LeO.bind ?_ (fun _ => ?_)

set_option maxHeartbeats 8000000 in
set_option maxRecDepth 100000 in
theorem laws_markChangeS.calls (k : Nat) (P0_ : Nat → Prop) (u9000_ : Value) (l0 : List (S51)) (a1 : Int) (r1 : Int) (r2 : List (S51)) (w0 w : World) (hB : Below w0.heap.size w0 w) (ho0 : Kd.R k51 51 w w0.heap.size P0_ u9000_ l0) (h : laws_markChangeS.f k l0 a1 = some (r1, r2)) :
    Calls Try.prog 29 #[u9000_, .int .i64 a1] w fun e w' => e = .returned (.int .i64 r1) ∧ Kd.R k51 51 w' w0.heap.size (fun k_ => (P0_ k_ ∨ w.heap.size ≤ k_)) u9000_ r2 ∧ Below w0.heap.size w0 w' ∧ Kept w w' (fun k_ => P0_ k_) := by
  have HO0 := Aside0.mk (show Kd.R k51 51 w w0.heap.size (fun k_ => (P0_ k_ ∨ w.heap.size ≤ k_)) u9000_ l0 from Kd.R_mono ho0 (fun k_ hk => (.inl hk)))
  have HK := Aside0.mk (Kept.refl w (fun k_ => P0_ k_))
  have HW0 := Aside0.mk hB.size
  have HB := Aside0.mk hB
  clear hB
  have H : (laws_markChangeS.l0 k l0 a1 0) = some (r1, r2) := h
  clear h
  have H' := Aside0.mk H
  clear H
  go_enter Try.func29, Try.ntmps29
  go_wp2
  go_loopg [1, 5] k (fun kq v1 v5 w' => ∃ (x0_1 : List (S51)) (x1_1 : Int) (x5_1 : Int), v1 = .int .i64 x1_1 ∧ v5 = .int .i64 x5_1 ∧ Aside0 (laws_markChangeS.l0 kq x0_1 x1_1 x5_1 = some (r1, r2)) ∧ Aside0 (kq ≤ k) ∧ Aside0 (Kd.R k51 51 w' w0.heap.size (fun k_ => (P0_ k_ ∨ w.heap.size ≤ k_)) u9000_ x0_1) ∧ Aside0 (Kept w w' (fun k_ => P0_ k_)) ∧ Aside0 (Below w0.heap.size w0 w'))
  case atStart => exact ⟨(l0), (a1), (0), (by first | rfl | (simp; done) | (simp [*]; done) | (simp; unfold wrap64; omega)), (by first | rfl | (simp; done) | (simp [*]; done) | (simp; unfold wrap64; omega)), H', ⟨Nat.le_refl _⟩, ⟨by (with_reducible repeat (first | apply Kd.R_alloc | apply Kd.R_drewN | apply Kd.R_drew)); exact HO0.out⟩, ⟨by repeat (first | (with_reducible first | exact HK.out | apply Kept.alloc | apply Kept.drewN | apply Kept.drew) | exact HK.out)⟩, ⟨by repeat (first | (with_reducible first | exact HB.out | apply below_alloc | apply pw_below_drewN | apply below_drew1) | exact HB.out)⟩⟩
  case round =>
    clear H'
    try clear c2
    try clear p2
    obtain ⟨x0_1, x1_1, x5_1, rfl, rfl, HA, HK1, HO_0, HK, HB⟩ := hrel
    cases gk with
    | zero => exact absurd HA.out (by simp [laws_markChangeS.l0])
    | succ k1 =>
      have H := HA.out
      clear HA
      simp only [laws_markChangeS.l0] at H
      by_cases c3 : x5_1 < (x0_1.length : Int)
      · rw [if_pos c3] at H
        have c3b0 : decide (x5_1 < (x0_1.length : Int)) = true := decide_eq_true c3
        clear c3
        by_cases c4 : 0 ≤ x5_1
        · rw [if_pos c4] at H
          have c4b0 : decide (0 ≤ x5_1) = true := decide_eq_true c4
          clear c4
          obtain ⟨y177, hy177⟩ : ∃ y_ : List (S51), y_ = (x0_1.set (x5_1 : Int).toNat (⟨x1_1, (rd_T51 x0_1 x5_1).f1, (rd_T51 x0_1 x5_1).f2⟩ : S51)) := ⟨_, rfl⟩
          replace H : ((some (y177.set (x5_1 : Int).toNat (⟨(rd_T51 y177 x5_1).f0, wrap64 (x1_1 + 1), (rd_T51 y177 x5_1).f2⟩ : S51) : List (S51))).bind fun y178 => ((laws_markText.f k1 (wrap64 ((wrap64 (x1_1 + 1)) + 1))).bind fun t179 => (laws_markChangeS.l0 k1 (y178.set (x5_1 : Int).toNat (⟨(rd_T51 y178 x5_1).f0, (rd_T51 y178 x5_1).f1, t179⟩ : S51)) (wrap64 ((wrap64 ((wrap64 (x1_1 + 1)) + 1)) + 1)) (wrap64 (x5_1 + 1))))) = some (r1, r2) := by first | (rw [hy177]; with_reducible exact H) | (have H2_ := (Option.bind_some _ _).symm.trans H; rw [hy177]; with_reducible exact H2_) | (have H2_ := (Option.bind_some _ _).symm.trans H; with_reducible exact H2_) | with_reducible exact H | (rw [hy177]; exact H) | exact H
          have Ny177 := Aside0.mk hy177
          clear hy177
          obtain ⟨y178, hy178⟩ : ∃ y_ : List (S51), y_ = (y177.set (x5_1 : Int).toNat (⟨(rd_T51 y177 x5_1).f0, wrap64 (x1_1 + 1), (rd_T51 y177 x5_1).f2⟩ : S51)) := ⟨_, rfl⟩
          replace H : ((laws_markText.f k1 (wrap64 ((wrap64 (x1_1 + 1)) + 1))).bind fun t179 => (laws_markChangeS.l0 k1 (y178.set (x5_1 : Int).toNat (⟨(rd_T51 y178 x5_1).f0, (rd_T51 y178 x5_1).f1, t179⟩ : S51)) (wrap64 ((wrap64 ((wrap64 (x1_1 + 1)) + 1)) + 1)) (wrap64 (x5_1 + 1)))) = some (r1, r2) := by first | (rw [hy178]; with_reducible exact H) | (have H2_ := (Option.bind_some _ _).symm.trans H; rw [hy178]; with_reducible exact H2_) | (have H2_ := (Option.bind_some _ _).symm.trans H; with_reducible exact H2_) | with_reducible exact H | (rw [hy178]; exact H) | exact H
          have Ny178 := Aside0.mk hy178
          clear hy178
          replace H := Option.bind_eq_some_iff.mp H
          obtain ⟨t179, A70, H⟩ := H
          replace H : (laws_markChangeS.l0 k1 (y178.set (x5_1 : Int).toNat (⟨(rd_T51 y178 x5_1).f0, (rd_T51 y178 x5_1).f1, t179⟩ : S51)) (wrap64 ((wrap64 ((wrap64 (x1_1 + 1)) + 1)) + 1)) (wrap64 (x5_1 + 1))) = some (r1, r2) := H
          have A7 := Aside0.mk A70
          clear A70
          obtain ⟨y180, hy180⟩ : ∃ y_ : List (S51), y_ = (y178.set (x5_1 : Int).toNat (⟨(rd_T51 y178 x5_1).f0, (rd_T51 y178 x5_1).f1, t179⟩ : S51)) := ⟨_, rfl⟩
          replace H : (laws_markChangeS.l0 k1 y180 (wrap64 ((wrap64 ((wrap64 (x1_1 + 1)) + 1)) + 1)) (wrap64 (x5_1 + 1))) = some (r1, r2) := by first | (rw [hy180]; with_reducible exact H) | (have H2_ := (Option.bind_some _ _).symm.trans H; rw [hy180]; with_reducible exact H2_) | (have H2_ := (Option.bind_some _ _).symm.trans H; with_reducible exact H2_) | with_reducible exact H | (rw [hy180]; exact H) | exact H
          have Ny180 := Aside0.mk hy180
          clear hy180
          have H' := Aside0.mk H
          clear H
          obtain ⟨Ao9, co9, eo9⟩ := Kd.R_slice HO_0.out
          subst eo9
          have p5 : 0 ≤ (x5_1 : Int) := of_decide_eq_true (by first | (with_reducible assumption) | assumption)
          have q5 : (x5_1 : Int) < ((x0_1.length : Int) : Int) := of_decide_eq_true (by first | (with_reducible assumption) | assumption)
          obtain ⟨go5, co5, eo5, gb5, gl5, cl5, HG5⟩ := Kd.R_form HO_0.out (by omega)
          (first | cases eo5 | (injection eo5 with ea_ en_ ec_; (first | subst ea_ | (injection ea_ with ea_; subst ea_)); subst ec_; clear en_))
          have GB5 := Aside0.mk gb5
          have GG5 := Aside0.mk HG5
          clear gb5 gl5 HG5
          have HMgo5 := Aside0.mk (show (P0_ go5 ∨ w.heap.size ≤ go5) from (HO_0.out.1 _ rfl))
          obtain ⟨ce5, hcl5, hM5, hcc5, hfr5⟩ := Kd.R_elem HO_0.out z51 (x5_1 : Int) p5 q5
          obtain rfl := k51_openM hM5
          have hx5_0 : wr.cell? ⟨go5, (x5_1 : Int).toNat * 3, none⟩ = some (.int .i64 ((rd_T51 x0_1 x5_1).f0)) := hcc5 0 _ rfl
          have hx5_1 : wr.cell? ⟨go5, (x5_1 : Int).toNat * 3 + 1, none⟩ = some (.int .i64 ((rd_T51 x0_1 x5_1).f1)) := hcc5 1 _ rfl
          have hx5_2 : wr.cell? ⟨go5, (x5_1 : Int).toNat * 3 + 2, none⟩ = some (.string ((rd_T51 x0_1 x5_1).f2)) := hcc5 2 _ rfl
          have hf5_0 : wr.frozen? ⟨go5, (x5_1 : Int).toNat * 3, none⟩ = false := hfr5 0
          have hf5_1 : wr.frozen? ⟨go5, (x5_1 : Int).toNat * 3 + 1, none⟩ = false := hfr5 1
          have hf5_2 : wr.frozen? ⟨go5, (x5_1 : Int).toNat * 3 + 2, none⟩ = false := hfr5 2
          clear hcl5 hcc5 hfr5 hM5
          replace p5 := eq_true p5
          replace q5 := eq_true q5
          have HX10 := Aside0.mk (show Kd.R k51 51 wr w0.heap.size (fun k_ => (P0_ k_ ∨ w.heap.size ≤ k_)) (.slice (some ⟨go5, 0, none⟩) x0_1.length co9) x0_1 from (by (with_reducible repeat (first | apply Kd.R_alloc | apply Kd.R_drewN | apply Kd.R_drew)); exact HO_0.out))
          obtain ⟨ce10, hcl10, hM10, hcc10, hfr10⟩ := Kd.R_elem HX10.out z51 (x5_1 : Int) (of_decide_eq_true (by first | (with_reducible assumption) | assumption)) (by have h_ : (x5_1 : Int) < ((x0_1.length : Int) : Int) := of_decide_eq_true (by first | (with_reducible assumption) | assumption); first | exact h_ | (have e_ := (Kd.R_reads' HO_0.out).1; omega) | simpa using h_)
          obtain rfl := k51_openM hM10
          have HP10 := Kd.R_seg HX10.out (x5_1 : Int) (of_decide_eq_true (by first | (with_reducible assumption) | assumption)) (by have h_ : (x5_1 : Int) < ((x0_1.length : Int) : Int) := of_decide_eq_true (by first | (with_reducible assumption) | assumption); first | exact h_ | (have e_ := (Kd.R_reads' HO_0.out).1; omega) | simpa using h_) (seg := [.int .i64 x1_1]) (j := 0) hcl10 hcc10 (show 1 ≤ 3 from by decide) (x' := (⟨x1_1, (rd_T51 x0_1 x5_1).f1, (rd_T51 x0_1 x5_1).f2⟩ : S51)) (k51_mkM _ _ _ (⟨x1_1, (rd_T51 x0_1 x5_1).f1, (rd_T51 x0_1 x5_1).f2⟩ : S51) ) (fun _ hk => hk)
          have hx10_0 := hcc10 0 _ rfl
          (try simp only [show (k51).sz = 3 from rfl, Nat.mul_one, Nat.add_zero] at hx10_0)
          have hf10_0 := hfr10 0
          (try simp only [show (k51).sz = 3 from rfl, Nat.mul_one, Nat.add_zero] at hf10_0)
          clear hcl10 hcc10 hfr10 hM10
          go_wp2_with (first | ((with_reducible refine gate_store (t := 3) (p := 16) rfl ?_); refine store_event (t := 3) (p := 16) (v := ?vo_w11) (w1 := (wr.setCell ⟨go5, (x5_1 : Int).toNat * 3, none⟩ (.int .i64 x1_1))) ?hg ?ho ?hn ?hr ?_; (case ho => rfl); (case hg => rfl); (case hn => rfl); (case hr => first | (go_simp; done) | (go_simp; rfl)); intro w11 hw; have hg : wr.grownBy w11 (some go5) := (by rw [hw]; exact HP10.2); have hp_ : Kd.R k51 51 w11 w0.heap.size (fun k_ => (P0_ k_ ∨ w.heap.size ≤ k_)) (.slice (some ⟨go5, 0, none⟩) x0_1.length co9) y177 := (by rw [hw, Ny177.out]; exact HP10.1); clear HP10; have n0_ := Aside0.mk (hp_); have n1_ := Aside0.mk ((by rw [hw]; exact below_set (HB.out) GB5.out : Below w0.heap.size w0 w11)); have n2_ := Aside0.mk (Kept.of_grown (S := (fun k_ => P0_ k_)) hg (by repeat (first | (with_reducible first | exact HK.out | apply Kept.alloc | apply Kept.drewN | apply Kept.drew) | exact HK.out)) (fun k_ e_ => (HO_0.out.1 k_ e_))); clear HO_0; clear HB; clear HK; have HO_0 := n0_; have HB := n1_; have HK := n2_; clear n0_ n1_ n2_; clear hg hw hp_; have p6 : 0 ≤ (x5_1 : Int) := of_decide_eq_true (by first | (with_reducible assumption) | assumption); have q6 : (x5_1 : Int) < ((x0_1.length : Int) : Int) := of_decide_eq_true (by first | (with_reducible assumption) | assumption); obtain ⟨ce6, hcl6, hM6, hcc6, hfr6⟩ := Kd.R_elem HO_0.out z51 (x5_1 : Int) p6 q6; obtain rfl := k51_openM hM6; have hx6_0 : w11.cell? ⟨go5, (x5_1 : Int).toNat * 3, none⟩ = some (.int .i64 ((rd_T51 y177 x5_1).f0)) := hcc6 0 _ rfl; have hx6_1 : w11.cell? ⟨go5, (x5_1 : Int).toNat * 3 + 1, none⟩ = some (.int .i64 ((rd_T51 y177 x5_1).f1)) := hcc6 1 _ rfl; have hx6_2 : w11.cell? ⟨go5, (x5_1 : Int).toNat * 3 + 2, none⟩ = some (.string ((rd_T51 y177 x5_1).f2)) := hcc6 2 _ rfl; have hf6_0 : w11.frozen? ⟨go5, (x5_1 : Int).toNat * 3, none⟩ = false := hfr6 0; have hf6_1 : w11.frozen? ⟨go5, (x5_1 : Int).toNat * 3 + 1, none⟩ = false := hfr6 1; have hf6_2 : w11.frozen? ⟨go5, (x5_1 : Int).toNat * 3 + 2, none⟩ = false := hfr6 2; clear hcl6 hcc6 hfr6 hM6; replace p6 := eq_true p6; replace q6 := eq_true q6; have HX12 := Aside0.mk (show Kd.R k51 51 w11 w0.heap.size (fun k_ => (P0_ k_ ∨ w.heap.size ≤ k_)) (.slice (some ⟨go5, 0, none⟩) x0_1.length co9) y177 from (by (with_reducible repeat (first | apply Kd.R_alloc | apply Kd.R_drewN | apply Kd.R_drew)); exact HO_0.out)); obtain ⟨ce12, hcl12, hM12, hcc12, hfr12⟩ := Kd.R_elem HX12.out z51 (x5_1 : Int) (of_decide_eq_true (by first | (with_reducible assumption) | assumption)) (by have h_ : (x5_1 : Int) < ((x0_1.length : Int) : Int) := of_decide_eq_true (by first | (with_reducible assumption) | assumption); first | exact h_ | (have e_ := (Kd.R_reads' HO_0.out).1; omega) | simpa using h_); obtain rfl := k51_openM hM12; have HP12 := Kd.R_seg HX12.out (x5_1 : Int) (of_decide_eq_true (by first | (with_reducible assumption) | assumption)) (by have h_ : (x5_1 : Int) < ((x0_1.length : Int) : Int) := of_decide_eq_true (by first | (with_reducible assumption) | assumption); first | exact h_ | (have e_ := (Kd.R_reads' HO_0.out).1; omega) | simpa using h_) (seg := [.int .i64 (wrap64 (x1_1 + 1))]) (j := 1) hcl12 hcc12 (show 2 ≤ 3 from by decide) (x' := (⟨(rd_T51 y177 x5_1).f0, wrap64 (x1_1 + 1), (rd_T51 y177 x5_1).f2⟩ : S51)) (k51_mkM _ _ _ (⟨(rd_T51 y177 x5_1).f0, wrap64 (x1_1 + 1), (rd_T51 y177 x5_1).f2⟩ : S51) ) (fun _ hk => hk); have hx12_1 := hcc12 1 _ rfl; (try simp only [show (k51).sz = 3 from rfl, Nat.mul_one, Nat.add_zero] at hx12_1); have hf12_1 := hfr12 1; (try simp only [show (k51).sz = 3 from rfl, Nat.mul_one, Nat.add_zero] at hf12_1); clear hcl12 hcc12 hfr12 hM12) | ((with_reducible refine gate_store (t := 3) (p := 23) rfl ?_); refine store_event (t := 3) (p := 23) (v := ?vo_w13) (w1 := (w11.setCell ⟨go5, (x5_1 : Int).toNat * 3 + 1, none⟩ (.int .i64 (wrap64 (x1_1 + 1))))) ?hg ?ho ?hn ?hr ?_; (case ho => rfl); (case hg => rfl); (case hn => rfl); (case hr => first | (go_simp; done) | (go_simp; rfl)); intro w13 hw; have hg : w11.grownBy w13 (some go5) := (by rw [hw]; exact HP12.2); have hp_ : Kd.R k51 51 w13 w0.heap.size (fun k_ => (P0_ k_ ∨ w.heap.size ≤ k_)) (.slice (some ⟨go5, 0, none⟩) x0_1.length co9) y178 := (by rw [hw, Ny178.out]; exact HP12.1); clear HP12; have n0_ := Aside0.mk (hp_); have n1_ := Aside0.mk ((by rw [hw]; exact below_set (HB.out) GB5.out : Below w0.heap.size w0 w13)); have n2_ := Aside0.mk (Kept.of_grown (S := (fun k_ => P0_ k_)) hg (by repeat (first | (with_reducible first | exact HK.out | apply Kept.alloc | apply Kept.drewN | apply Kept.drew) | exact HK.out)) (fun k_ e_ => (HO_0.out.1 k_ e_))); clear HO_0; clear HB; clear HK; have HO_0 := n0_; have HB := n1_; have HK := n2_; clear n0_ n1_ n2_; clear hg hw hp_) | ((with_reducible refine gate_callee (f := 36) rfl ?_); refine goesL_ (some 29) rfl rfl Try.func36 (by kernel_rfl) rfl #[.int .i64 (wrap64 ((wrap64 (x1_1 + 1)) + 1))] rfl (by (try simp only [List.map_toArray, List.map_cons, List.map_nil]); first | done | rfl | (simp only [List.length_drop, List.length_take]; rfl)) ?_; (with_reducible refine (laws_markText.calls k1 (wrap64 ((wrap64 (x1_1 + 1)) + 1)) t179 _ A7.out).mono ?_); rintro e w14 ⟨rfl, hb⟩; refine ⟨_, rfl, ?_⟩; have n0_ := Aside0.mk (Kd.R_below (by (with_reducible repeat (first | apply Kd.R_alloc | apply Kd.R_drewN | apply Kd.R_drew)); exact HO_0.out) hb); have n1_ := Aside0.mk (Kept.below (S := (fun k_ => P0_ k_)) (by repeat (first | (with_reducible first | exact HK.out | apply Kept.alloc | apply Kept.drewN | apply Kept.drew) | exact HK.out)) hb); have n2_ := Aside0.mk (below_step (by repeat (first | (with_reducible first | exact HB.out | apply below_alloc | apply pw_below_drewN | apply below_drew1) | exact HB.out)) hb); clear HO_0; clear HK; clear HB; have HO_0 := n0_; have HK := n1_; have HB := n2_; clear n0_ n1_ n2_; (try clear hb); (try clear hb2); (try clear hk); (try clear hi); have p8 : 0 ≤ (x5_1 : Int) := of_decide_eq_true (by first | (with_reducible assumption) | assumption); have q8 : (x5_1 : Int) < ((x0_1.length : Int) : Int) := of_decide_eq_true (by first | (with_reducible assumption) | assumption); obtain ⟨ce8, hcl8, hM8, hcc8, hfr8⟩ := Kd.R_elem HO_0.out z51 (x5_1 : Int) p8 q8; obtain rfl := k51_openM hM8; have hx8_0 : w14.cell? ⟨go5, (x5_1 : Int).toNat * 3, none⟩ = some (.int .i64 ((rd_T51 y178 x5_1).f0)) := hcc8 0 _ rfl; have hx8_1 : w14.cell? ⟨go5, (x5_1 : Int).toNat * 3 + 1, none⟩ = some (.int .i64 ((rd_T51 y178 x5_1).f1)) := hcc8 1 _ rfl; have hx8_2 : w14.cell? ⟨go5, (x5_1 : Int).toNat * 3 + 2, none⟩ = some (.string ((rd_T51 y178 x5_1).f2)) := hcc8 2 _ rfl; have hf8_0 : w14.frozen? ⟨go5, (x5_1 : Int).toNat * 3, none⟩ = false := hfr8 0; have hf8_1 : w14.frozen? ⟨go5, (x5_1 : Int).toNat * 3 + 1, none⟩ = false := hfr8 1; have hf8_2 : w14.frozen? ⟨go5, (x5_1 : Int).toNat * 3 + 2, none⟩ = false := hfr8 2; clear hcl8 hcc8 hfr8 hM8; replace p8 := eq_true p8; replace q8 := eq_true q8; have HX15 := Aside0.mk (show Kd.R k51 51 w14 w0.heap.size (fun k_ => (P0_ k_ ∨ w.heap.size ≤ k_)) (.slice (some ⟨go5, 0, none⟩) x0_1.length co9) y178 from (by (with_reducible repeat (first | apply Kd.R_alloc | apply Kd.R_drewN | apply Kd.R_drew)); exact HO_0.out)); obtain ⟨ce15, hcl15, hM15, hcc15, hfr15⟩ := Kd.R_elem HX15.out z51 (x5_1 : Int) (of_decide_eq_true (by first | (with_reducible assumption) | assumption)) (by have h_ : (x5_1 : Int) < ((x0_1.length : Int) : Int) := of_decide_eq_true (by first | (with_reducible assumption) | assumption); first | exact h_ | (have e_ := (Kd.R_reads' HO_0.out).1; omega) | simpa using h_); obtain rfl := k51_openM hM15; have HP15 := Kd.R_seg HX15.out (x5_1 : Int) (of_decide_eq_true (by first | (with_reducible assumption) | assumption)) (by have h_ : (x5_1 : Int) < ((x0_1.length : Int) : Int) := of_decide_eq_true (by first | (with_reducible assumption) | assumption); first | exact h_ | (have e_ := (Kd.R_reads' HO_0.out).1; omega) | simpa using h_) (seg := [.string t179]) (j := 2) hcl15 hcc15 (show 3 ≤ 3 from by decide) (x' := (⟨(rd_T51 y178 x5_1).f0, (rd_T51 y178 x5_1).f1, t179⟩ : S51)) (k51_mkM _ _ _ (⟨(rd_T51 y178 x5_1).f0, (rd_T51 y178 x5_1).f1, t179⟩ : S51) ) (fun _ hk => hk); have hx15_2 := hcc15 2 _ rfl; (try simp only [show (k51).sz = 3 from rfl, Nat.mul_one, Nat.add_zero] at hx15_2); have hf15_2 := hfr15 2; (try simp only [show (k51).sz = 3 from rfl, Nat.mul_one, Nat.add_zero] at hf15_2); clear hcl15 hcc15 hfr15 hM15) | ((with_reducible refine gate_store (t := 9) (p := 31) rfl ?_); refine store_event (t := 9) (p := 31) (v := ?vo_w16) (w1 := (w14.setCell ⟨go5, (x5_1 : Int).toNat * 3 + 2, none⟩ (.string t179))) ?hg ?ho ?hn ?hr ?_; (case ho => rfl); (case hg => rfl); (case hn => rfl); (case hr => first | (go_simp; done) | (go_simp; rfl)); intro w16 hw; have hg : w14.grownBy w16 (some go5) := (by rw [hw]; exact HP15.2); have hp_ : Kd.R k51 51 w16 w0.heap.size (fun k_ => (P0_ k_ ∨ w.heap.size ≤ k_)) (.slice (some ⟨go5, 0, none⟩) x0_1.length co9) y180 := (by rw [hw, Ny180.out]; exact HP15.1); clear HP15; have n0_ := Aside0.mk (hp_); have n1_ := Aside0.mk ((by rw [hw]; exact below_set (HB.out) GB5.out : Below w0.heap.size w0 w16)); have n2_ := Aside0.mk (Kept.of_grown (S := (fun k_ => P0_ k_)) hg (by repeat (first | (with_reducible first | exact HK.out | apply Kept.alloc | apply Kept.drewN | apply Kept.drew) | exact HK.out)) (fun k_ e_ => (HO_0.out.1 k_ e_))); clear HO_0; clear HB; clear HK; have HO_0 := n0_; have HB := n1_; have HK := n2_; clear n0_ n1_ n2_; clear hg hw hp_))
          go_roundg k1
          case measure => have := HK1.out; omega
          case rel => exact ⟨(y180), (wrap64 ((wrap64 ((wrap64 (x1_1 + 1)) + 1)) + 1)), (wrap64 (x5_1 + 1)), (by first | rfl | (simp; done) | (simp [*]; done) | (simp; unfold wrap64; omega)), (by first | rfl | (simp; done) | (simp [*]; done) | (simp; unfold wrap64; omega)), H', ⟨by have := HK1.out; omega⟩, ⟨by (with_reducible repeat (first | apply Kd.R_alloc | apply Kd.R_drewN | apply Kd.R_drew)); exact HO_0.out⟩, ⟨by repeat (first | (with_reducible first | exact HK.out | apply Kept.alloc | apply Kept.drewN | apply Kept.drew) | exact HK.out)⟩, ⟨by repeat (first | (with_reducible first | exact HB.out | apply below_alloc | apply pw_below_drewN | apply below_drew1) | exact HB.out)⟩⟩
        · rw [if_neg c4] at H
          exact absurd H (by simp)
      · rw [if_neg c3] at H
        have c3b0 : decide (x5_1 < (x0_1.length : Int)) = false := decide_eq_false c3
        clear c3
        simp only [Option.some.injEq, Prod.mk.injEq] at H
        obtain ⟨rfl, rfl⟩ := H
        obtain ⟨Ao17, co17, eo17⟩ := Kd.R_slice HO_0.out
        subst eo17
        go_wp2
        go_ret
        exact ⟨by first | rfl | (simp [errW_none, errW_some] <;> rfl) | (simp [*, errW_none, errW_some] <;> rfl), by (with_reducible repeat (first | apply Kd.R_alloc | apply Kd.R_drewN | apply Kd.R_drew)); exact HO_0.out, by repeat (first | (with_reducible first | exact HB.out | apply below_alloc | apply pw_below_drewN | apply below_drew1) | exact HB.out), by repeat (first | (with_reducible first | exact HK.out | apply Kept.alloc | apply Kept.drewN | apply Kept.drew) | exact HK.out)⟩



/-! ### laws_markStepS: function 16 -/

/-- How many marks a list of steps takes. -/
def markSum (xs : List S41) : Int := xs.foldr (fun s t => 1 + 3 * (s.f1.length : Int) + t) 0

def laws_markStepS.f (l0 : List S41) (a1 : Int) : Option Int := if 1 ≤ a1 ∧ a1 + markSum l0 ≤ 4000000000000 then some (a1 + markSum l0) else none

theorem ms_text_l0 : ∀ (d : Nat) (x : Int) (s : ByteArray), x < 10 ^ d → s.size + d + 1 ≤ 1000 → x ≤ 4000000000000 → ∃ t K, ∀ k, K ≤ k → laws_markText.l0 k x s = some t
  | 0, x, s, h, hs, hx => by
    refine ⟨(⟨#[109]⟩ : ByteArray) ++ s, 1, fun k hk => ?_⟩
    obtain ⟨k, rfl⟩ : ∃ m, k = m + 1 := ⟨k - 1, by omega⟩
    simp only [Int.pow_zero] at h
    rw [laws_markText.l0, if_neg (by omega), if_pos (by omega)]
  | d + 1, x, s, h, hs, hx => by
    by_cases h0 : x > 0
    · have w1 : wrap64 (Int.tdiv x 10) = x / 10 := by rw [Int.tdiv_eq_ediv_of_nonneg (by omega)]; unfold wrap64; omega
      have hp : x / 10 < 10 ^ d := by
        rw [Int.pow_succ] at h
        exact Int.ediv_lt_of_lt_mul (by omega) h
      have hsz : ∀ y : Int, (strOfNums [y]).size = 1 := fun y => rfl
      obtain ⟨t, K, ht⟩ := ms_text_l0 d (x / 10) (strOfNums [(wrap64 (48 + (Int.tmod x 10))) % 256] ++ s) hp (by rw [ByteArray.size_append, hsz]; omega) (by omega)
      refine ⟨t, K + 1, fun k hk => ?_⟩
      obtain ⟨k, rfl⟩ : ∃ m, k = m + 1 := ⟨k - 1, by omega⟩
      rw [laws_markText.l0, if_pos h0]
      simp only [Option.bind_some]
      rw [if_pos (by rw [hsz]; omega), w1]
      exact ht k (by omega)
    · refine ⟨(⟨#[109]⟩ : ByteArray) ++ s, 1, fun k hk => ?_⟩
      obtain ⟨k, rfl⟩ : ∃ m, k = m + 1 := ⟨k - 1, by omega⟩
      rw [laws_markText.l0, if_neg h0, if_pos (by omega)]

theorem ms_text (x : Int) (hx : x ≤ 4000000000000) : ∃ t K, ∀ k, K ≤ k → laws_markText.f k x = some t := by
  unfold laws_markText.f
  by_cases h : x ≤ 0
  · exact ⟨_, 0, fun k _ => by rw [if_pos h]⟩
  · obtain ⟨t, K, ht⟩ := ms_text_l0 13 x (⟨#[]⟩ : ByteArray) (by omega) (by show 0 + 13 + 1 ≤ 1000; omega) hx
    exact ⟨t, K, fun k hk => by rw [if_neg h]; exact ht k hk⟩

theorem ms_w {x : Int} (h1 : -9223372036854775808 ≤ x) (h2 : x ≤ 9223372036854775807) : wrap64 x = x := by unfold wrap64; omega

theorem ms_change : ∀ (d : Nat) (l : List S51) (i : Nat) (a : Int), i + d = l.length → l.length ≤ 4000000000000 → 1 ≤ a → a + 3 * (d : Int) ≤ 4000000000000 → ∃ l' K, l'.length = l.length ∧ ∀ k, K ≤ k → laws_markChangeS.l0 k l a (i : Int) = some (a + 3 * (d : Int), l')
  | 0, l, i, a, hi, hll, h1, h2 => by
    refine ⟨l, 1, rfl, fun k hk => ?_⟩
    obtain ⟨k, rfl⟩ : ∃ m, k = m + 1 := ⟨k - 1, by omega⟩
    rw [laws_markChangeS.l0, if_neg (by omega)]; simp
  | d + 1, l, i, a, hi, hll, h1, h2 => by
    have hd0 : a + 3 * ((d : Int) + 1) ≤ 4000000000000 := by have : ((d + 1 : Nat) : Int) = (d : Int) + 1 := rfl; rw [this] at h2; exact h2
    obtain ⟨t, K1, ht⟩ := ms_text (a + 1 + 1) (by omega)
    have w1 := ms_w (x := a + 1) (by omega) (by omega)
    have w2 := ms_w (x := a + 1 + 1) (by omega) (by omega)
    have w3 := ms_w (x := a + 1 + 1 + 1) (by omega) (by omega)
    have w4 := ms_w (x := (i : Int) + 1) (by omega) (by omega)
    obtain ⟨y1, hy1⟩ : ∃ y, l.set (i : Int).toNat (⟨a, (rd_T51 l i).f1, (rd_T51 l i).f2⟩ : S51) = y := ⟨_, rfl⟩
    obtain ⟨y2, hy2⟩ : ∃ y, y1.set (i : Int).toNat (⟨(rd_T51 y1 i).f0, a + 1, (rd_T51 y1 i).f2⟩ : S51) = y := ⟨_, rfl⟩
    obtain ⟨y3, hy3⟩ : ∃ y, y2.set (i : Int).toNat (⟨(rd_T51 y2 i).f0, (rd_T51 y2 i).f1, t⟩ : S51) = y := ⟨_, rfl⟩
    have hl : y3.length = l.length := by rw [← hy3, List.length_set, ← hy2, List.length_set, ← hy1, List.length_set]
    obtain ⟨l', K, hl', hk'⟩ := ms_change d y3 (i + 1) (a + 1 + 1 + 1) (by omega) (by omega) (by omega) (by omega)
    refine ⟨l', K + K1 + 1, by omega, fun k hk => ?_⟩
    obtain ⟨k, rfl⟩ : ∃ m, k = m + 1 := ⟨k - 1, by omega⟩
    rw [laws_markChangeS.l0, if_pos (by omega), if_pos (by omega), w1, w2, w3, w4, hy1]
    simp only [Option.bind_some]
    rw [hy2, ht k (by omega)]
    simp only [Option.bind_some]
    rw [hy3]
    have := hk' k (by omega)
    rw [show (((i + 1 : Nat)) : Int) = (i : Int) + 1 from rfl] at this
    rw [this, show a + 1 + 1 + 1 + 3 * (d : Int) = a + 3 * ((d + 1 : Nat) : Int) from by omega]

theorem markSum_cons (s : S41) (xs : List S41) : markSum (s :: xs) = 1 + 3 * (s.f1.length : Int) + markSum xs := rfl

theorem markSum_nn : ∀ xs : List S41, 0 ≤ markSum xs
  | [] => Int.le_refl _
  | s :: xs => by rw [markSum_cons]; have := markSum_nn xs; omega

set_option maxHeartbeats 8000000 in
set_option maxRecDepth 100000 in
theorem markStepS_walk (A0 : Option Addr) (c0 : Nat) (xs : List S41) (a1 : Int) (ok : Nat → Prop) (w0 W : World) (hS : Kd.S k41 41 W w0.heap.size ok (.slice A0 xs.length c0) xs) (hB : Below w0.heap.size w0 W) (h0 : 1 ≤ a1) (h1 : a1 + markSum xs ≤ 4000000000000) (hn : xs.length ≤ 4000000000000) :
    Calls Try.prog 16 #[.slice A0 xs.length c0, .int .i64 a1] W fun e w' => e = .returned (.int .i64 (a1 + markSum xs)) ∧ Below w0.heap.size w0 w' ∧ Kept W w' ok := by
  have HS := Lib.hid hS; have HB := Lib.hid hB; clear hS hB
  go_enter Try.func16, Try.ntmps16
  go_wp2_with fail
  go_loopw [1, 5] (fun v1 v5 w' => ∃ (i : Nat) (m : Int) (ys : List S41), i ≤ xs.length ∧ v5 = .int .i64 i ∧ v1 = .int .i64 m ∧ Hid (1 ≤ m ∧ m + markSum (xs.drop i) = a1 + markSum xs) ∧ Hid (ys.length = xs.length ∧ ys.drop i = xs.drop i) ∧ Hid (Kd.S k41 41 w' w0.heap.size ok (.slice A0 xs.length c0) ys) ∧ Hid (Below w0.heap.size w0 w') ∧ Hid (Kept W w' ok)) (fun _ v5 _ => xs.length - (intOf v5).toNat)
  case atStart => exact ⟨0, a1, xs, Nat.zero_le _, rfl, rfl, Lib.hid ⟨h0, by rw [List.drop_zero]⟩, Lib.hid ⟨rfl, rfl⟩, HS, HB, Lib.hid (Kept.refl _ _)⟩
  case round =>
    clear HS HB
    obtain ⟨i, m, ys, hi, rfl, rfl, HM, HY, HS, HB, HK⟩ := hrel
    by_cases hlt : i < xs.length
    · have hyl := HY.out.1
      have hxd : ys.drop i = xs.drop i := HY.out.2
      obtain ⟨g, cap, hA, hgb, hgl, _⟩ := Kd.S_form HS.out (by omega)
      injection hA with hA hn2 hc
      subst hA; subst hc
      obtain ⟨oki, c, hcl, hcM, hcc, hcf, hoki, hH⟩ := Kd.S_elem HS.out z41 (i : Int) (by omega) (by omega)
      obtain ⟨v1, rfl, hR⟩ := k41_openM hcM
      obtain ⟨x, hx⟩ : ∃ x, ys.getD (i : Int).toNat z41 = x := ⟨_, rfl⟩
      rw [hx] at hR
      have hxs : xs.drop i = x :: xs.drop (i + 1) := by
        rw [← hxd, List.drop_eq_getElem_cons (by omega)]
        have e1 : ys[i]'(by omega) = x := by rw [← hx, Int.toNat_natCast, List.getD_eq_getElem?_getD, List.getElem?_eq_getElem (by omega)]; rfl
        rw [e1]
        congr 1
        have := congrArg (List.drop 1) hxd
        simpa [List.drop_drop] using this
      have hM1 := HM.out.1
      have hM2 := HM.out.2
      rw [hxs, markSum_cons] at hM2
      have hnn := markSum_nn (xs.drop (i + 1))
      have hm1 := ms_w (x := m + 1) (by omega) (by omega)
      have hw1 : IntKind.i64.wrap (m + 1) = m + 1 := by rw [i64_w]; exact hm1
      have hw2 : IntKind.i64.wrap ((i : Int) + 1) = (i : Int) + 1 := IntWalk.i64_in _ (by omega)
      have b1 : decide ((i : Int) < (xs.length : Int)) = true := decide_eq_true (by omega)
      have p1 : (0 ≤ (i : Int)) = True := eq_true (by omega)
      have p2 : ((i : Int) < (xs.length : Int)) = True := eq_true (by omega)
      have y0 : wr.cell? ⟨g, i * 2, none⟩ = some (.int .i64 (ys.getD (i : Int).toNat z41).f0) := hcc 0 _ rfl
      have f0 : wr.frozen? ⟨g, i * 2, none⟩ = false := hcf 0
      obtain ⟨W1, hW1⟩ : ∃ W1, wr.setCell ⟨g, i * 2, none⟩ (.int .i64 m) = W1 := ⟨_, rfl⟩
      have hs1 := Kd.S_seg0 (seg := [.int .i64 m]) (j := 0) (okp := oki) (x' := (⟨m, x.f1⟩ : S41)) hH (by omega) (by omega) (by show 0 + 1 ≤ 2; omega) (k41_mkM _ _ _ (⟨m, x.f1⟩ : S41) hR) (fun _ h => h)
      have hS1 : Kd.S k41 41 W1 w0.heap.size ok (.slice (some ⟨g, 0, none⟩) xs.length c0) (ys.set i ⟨m, x.f1⟩) := by rw [← hW1]; exact hs1.1
      have hB1 : Below w0.heap.size w0 W1 := by rw [← hW1]; exact below_set HB.out hgb
      have hK1 : Kept W W1 ok := by rw [← hW1]; exact Kept.setCell HK.out (.inl ((Kd.S_R HS.out).1 g rfl)) _
      obtain ⟨oki1, c1, hcl1, hcM1, hcc1, hcf1, hoki1, hH1⟩ := Kd.S_elem hS1 z41 (i : Int) (by omega) (by omega)
      have hgd : (ys.set i (⟨m, x.f1⟩ : S41)).getD (i : Int).toNat z41 = ⟨m, x.f1⟩ := by
        rw [Int.toNat_natCast, List.getD_eq_getElem?_getD, List.getElem?_set, if_pos rfl, if_pos (by omega)]; rfl
      rw [hgd] at hcM1
      obtain ⟨v2, rfl, hR1⟩ := k41_openM hcM1
      obtain ⟨A2, c2, rfl⟩ := Kd.R_slice hR1
      have y1 : W1.cell? ⟨g, i * 2 + 1, none⟩ = some (.slice A2 x.f1.length c2) := hcc1 1 _ rfl
      obtain ⟨l', K, hl', hk'⟩ := ms_change x.f1.length x.f1 0 (m + 1) (by omega) (by omega) (by omega) (by omega)
      have hk'' := hk' K (Nat.le_refl _)
      have HR1 := Lib.hid hR1; have HH1 := Lib.hid hH1; have HB1 := Lib.hid hB1; have HK1 := Lib.hid hK1; have HF := Lib.hid hk''; have HG := Lib.hid hgd; have HOK := Lib.hid hoki1; have HL' := Lib.hid hl'
      have HNEXT := Lib.hid (show m + 1 + 3 * (x.f1.length : Int) + markSum (xs.drop (i + 1)) = a1 + markSum xs by omega)
      have HXD := Lib.hid hxd
      clear hcl hcM hcc hcf hoki hH hR hx hxs hM2 hs1 hS1 hB1 hK1 hcl1 hcM1 hcc1 hcf1 hoki1 hH1 hgd hR1 hk' hk'' hl' hxd hn2 hyl hm1
      go_wp2_with fail
      refine (laws_markChangeS.calls K oki1 _ x.f1 (m + 1) (m + 1 + 3 * (x.f1.length : Int)) l' w0 W1 HB1.out HR1.out HF.out).mono ?_; rintro e w2 ⟨rfl, hr, hb, hkp⟩
      have hu : ∀ k, (Value.slice A2 x.f1.length c2).ownBlock = some k → oki1 k := HR1.out.1
      have hr2 : Kd.R k51 51 w2 w0.heap.size oki1 (.slice A2 x.f1.length c2) l' := Kd.R_mono (Kd.R_tight rfl hr) (fun k hk => hu k hk.symm)
      have HS2 := Lib.hid (Kd.H_back (Kd.H_step HH1.out (fun k hk hn hlt => hkp.2 k hlt hn)) (x' := (⟨m, l'⟩ : S41)) (k41_mkM _ _ _ (⟨m, l'⟩ : S41) hr2) (fun _ h => h))
      have HB2 := Lib.hid hb
      have HK2 := Lib.hid (Kept.then_ HK1.out hkp (fun k hk => .inl (HOK.out k hk).1))
      have hyl2 := HY.out.1
      have hds : ((ys.set i (⟨m, x.f1⟩ : S41)).set i ⟨m, l'⟩).drop (i + 1) = xs.drop (i + 1) := by
        rw [List.set_set, List.drop_set_of_lt (by omega)]
        have := congrArg (List.drop 1) HY.out.2
        simpa [List.drop_drop] using this
      have HY2 := Lib.hid (show ((ys.set i (⟨m, x.f1⟩ : S41)).set i ⟨m, l'⟩).length = xs.length ∧ ((ys.set i (⟨m, x.f1⟩ : S41)).set i ⟨m, l'⟩).drop (i + 1) = xs.drop (i + 1) from ⟨by rw [List.length_set, List.length_set]; exact hyl2, hds⟩)
      have HM2 := Lib.hid (show 1 ≤ m + 1 + 3 * (x.f1.length : Int) ∧ m + 1 + 3 * (x.f1.length : Int) + markSum (xs.drop (i + 1)) = a1 + markSum xs from ⟨by omega, HNEXT.out⟩)
      clear hr hb hkp hu hr2 hyl2 hds
      go_wp2_with fail
      go_roundw
      case rel => exact ⟨i + 1, _, _, by omega, by go_num, rfl, HM2, HY2, HS2, HB2, HK2⟩
      case measure => simp [intOf]; omega
    · obtain rfl : i = xs.length := by omega
      have b1 : decide ((xs.length : Int) < (xs.length : Int)) = false := decide_eq_false (by omega)
      go_wp2_with fail
      go_ret
      refine ⟨?_, HB.out, HK.out⟩
      have := HM.out.2
      rw [List.drop_length] at this
      have e : m = a1 + markSum xs := by rw [← this]; show m = m + 0; omega
      subst e; rfl

theorem laws_markStepS.calls (A0 : Option Addr) (c0 : Nat) (l0 : List S41) (a1 r : Int) (ok : Nat → Prop) (w0 W : World) (hS : Kd.S k41 41 W w0.heap.size ok (.slice A0 l0.length c0) l0) (hB : Below w0.heap.size w0 W) (h : laws_markStepS.f l0 a1 = some r) :
    Calls Try.prog 16 #[.slice A0 l0.length c0, .int .i64 a1] W fun e w' => e = .returned (.int .i64 r) ∧ Below w0.heap.size w0 w' ∧ Kept W w' (fun k => ok k ∧ w0.heap.size ≤ k ∧ ∃ q, q ∈ 41 :: (k41).E ∧ ∃ cells, W.heap[k]? = some (.cells cells q (0, 0))) := by
  unfold laws_markStepS.f at h
  by_cases hh : 1 ≤ a1 ∧ a1 + markSum l0 ≤ 4000000000000
  · rw [if_pos hh] at h
    obtain rfl := Option.some.inj h
    have hlen : ∀ xs : List S41, (xs.length : Int) ≤ markSum xs := fun xs => by
      induction xs with
      | nil => exact Int.le_refl _
      | cons s xs ih => rw [markSum_cons, List.length_cons]; omega
    have := hlen l0
    exact (markStepS_walk A0 c0 l0 a1 _ w0 W (Kd.S_mono (Kd.S_bound hS) (fun k hk => ⟨hk.1, hk.2.1, hk.2.2.2⟩)) hB hh.1 hh.2 (by omega)).mono fun e w' ⟨he, hb, hk⟩ => ⟨he, hb, hk⟩
  · rw [if_neg hh] at h; cases h

theorem markS_row {W w' : World} {base b0 : Nat} {okb okx : Nat → Prop} {v : Value} {xs : List Bool} (h : Kd.R Kd.bool 4 W base okb v xs) (hk : Kept W w' (fun k => okx k ∧ b0 ≤ k ∧ ∃ q, q ∈ 41 :: (k41).E ∧ ∃ cells, W.heap[k]? = some (.cells cells q (0, 0)))) : Kd.R Kd.bool 4 w' base okb v xs := by
  refine Kd.R_mono (Kd.R_step (Kd.R_bound h) (fun k ho hlt => hk.2 k hlt (fun hS => ?_))) (fun k h => h.1)
  obtain ⟨_, _, _, q, hq, cs, hc⟩ := ho
  obtain ⟨_, _, q', hq', cs', hc'⟩ := hS
  rw [hc] at hc'
  injection hc' with e
  injection e with _ e2 _
  subst e2
  have h1 : ∀ q, q ∈ 41 :: (k41).E → q ≠ 4 := by decide
  have h2 : ∀ q, q ∈ 4 :: (Kd.bool).E → q = 4 := by decide
  exact h1 _ hq' (h2 _ hq)



/-! ### laws_markBoolS: function 17 -/

def laws_markBoolS.l0 : Nat → List Bool → Int → Int → Option (Int × List Bool)
  | 0, _, _, _ => none
  | k + 1, x0, x1, x5 => if x5 < (x0.length : Int) then (if 0 ≤ x5 then (laws_markBoolS.l0 k (x0.set (x5 : Int).toNat ((Int.tmod x1 3) == 0)) (wrap64 (x1 + 1)) (wrap64 (x5 + 1))) else (none)) else (some (x1, x0))

def laws_markBoolS.f (k : Nat) (l0 : List Bool) (a1 : Int) : Option (Int × List Bool) := laws_markBoolS.l0 k l0 a1 0

theorem laws_markBoolS.mono_l : ∀ k, (∀ y0 y1 y2, LeO (laws_markBoolS.l0 k y0 y1 y2) (laws_markBoolS.l0 (k + 1) y0 y1 y2))
  | 0 => fun _ _ _ r h => by simp [laws_markBoolS.l0] at h
  | k + 1 => by
    have ih0 := laws_markBoolS.mono_l k
    · intro y0 y1 y2
      unfold laws_markBoolS.l0
      repeat' first
      | (with_reducible exact ih0 _ _ _)
      | (with_reducible exact LeO.refl _)
      | (with_reducible exact LeO.none _)
      | (with_reducible refine LeO.ite ?_ ?_)
      | (with_reducible refine LeO.bind ?_ (fun _ => ?_))
      | exact ih0 _ _ _
      | exact LeO.none _
      | refine LeO.ite ?_ ?_
      | refine LeO.bind ?_ (fun _ => ?_)

theorem laws_markBoolS.mono : ∀ a0 a1 k, LeO (laws_markBoolS.f k a0 a1) (laws_markBoolS.f (k + 1) a0 a1) := by
  intro a0 a1 k
  have ih0 := laws_markBoolS.mono_l k
  unfold laws_markBoolS.f
  repeat' first
      | (with_reducible exact ih0 _ _ _)
      | (with_reducible exact LeO.refl _)
      | (with_reducible exact LeO.none _)
      | (with_reducible refine LeO.ite ?_ ?_)
      | (with_reducible refine LeO.bind ?_ (fun _ => ?_))
      | exact ih0 _ _ _
      | exact LeO.none _
      | refine LeO.ite ?_ ?_
      | refine LeO.bind ?_ (fun _ => ?_)

set_option maxHeartbeats 8000000 in
set_option maxRecDepth 100000 in
theorem laws_markBoolS.calls (k : Nat) (P0_ : Nat → Prop) (u9000_ : Value) (l0 : List Bool) (a1 : Int) (r1 : Int) (r2 : List Bool) (w0 w : World) (hB : Below w0.heap.size w0 w) (ho0 : Kd.R Kd.bool 4 w w0.heap.size P0_ u9000_ l0) (h : laws_markBoolS.f k l0 a1 = some (r1, r2)) :
    Calls Try.prog 17 #[u9000_, .int .i64 a1] w fun e w' => e = .returned (.int .i64 r1) ∧ Kd.R Kd.bool 4 w' w0.heap.size (fun k_ => (P0_ k_ ∨ w.heap.size ≤ k_)) u9000_ r2 ∧ Below w0.heap.size w0 w' ∧ Kept w w' (fun k_ => P0_ k_) := by
  have HO0 := Aside0.mk (show Kd.R Kd.bool 4 w w0.heap.size (fun k_ => (P0_ k_ ∨ w.heap.size ≤ k_)) u9000_ l0 from Kd.R_mono ho0 (fun k_ hk => (.inl hk)))
  have HK := Aside0.mk (Kept.refl w (fun k_ => P0_ k_))
  have HW0 := Aside0.mk hB.size
  have HB := Aside0.mk hB
  clear hB
  have H : (laws_markBoolS.l0 k l0 a1 0) = some (r1, r2) := h
  clear h
  have H' := Aside0.mk H
  clear H
  go_enter Try.func17, Try.ntmps17
  go_wp2
  go_loopg [1, 5] k (fun kq v1 v5 w' => ∃ (x0_1 : List Bool) (x1_1 : Int) (x5_1 : Int), v1 = .int .i64 x1_1 ∧ v5 = .int .i64 x5_1 ∧ Aside0 (laws_markBoolS.l0 kq x0_1 x1_1 x5_1 = some (r1, r2)) ∧ Aside0 (kq ≤ k) ∧ Aside0 (Kd.R Kd.bool 4 w' w0.heap.size (fun k_ => (P0_ k_ ∨ w.heap.size ≤ k_)) u9000_ x0_1) ∧ Aside0 (Kept w w' (fun k_ => P0_ k_)) ∧ Aside0 (Below w0.heap.size w0 w'))
  case atStart => exact ⟨(l0), (a1), (0), (by first | rfl | (simp; done) | (simp [*]; done) | (simp; unfold wrap64; omega)), (by first | rfl | (simp; done) | (simp [*]; done) | (simp; unfold wrap64; omega)), H', ⟨Nat.le_refl _⟩, ⟨by (with_reducible repeat (first | apply Kd.R_alloc | apply Kd.R_drewN | apply Kd.R_drew)); exact HO0.out⟩, ⟨by repeat (first | (with_reducible first | exact HK.out | apply Kept.alloc | apply Kept.drewN | apply Kept.drew) | exact HK.out)⟩, ⟨by repeat (first | (with_reducible first | exact HB.out | apply below_alloc | apply pw_below_drewN | apply below_drew1) | exact HB.out)⟩⟩
  case round =>
    clear H'
    try clear c1
    try clear p2
    obtain ⟨x0_1, x1_1, x5_1, rfl, rfl, HA, HK1, HO_0, HK, HB⟩ := hrel
    cases gk with
    | zero => exact absurd HA.out (by simp [laws_markBoolS.l0])
    | succ k1 =>
      have H := HA.out
      clear HA
      simp only [laws_markBoolS.l0] at H
      by_cases c3 : x5_1 < (x0_1.length : Int)
      · rw [if_pos c3] at H
        have c3b0 : decide (x5_1 < (x0_1.length : Int)) = true := decide_eq_true c3
        clear c3
        by_cases c4 : 0 ≤ x5_1
        · rw [if_pos c4] at H
          have c4b0 : decide (0 ≤ x5_1) = true := decide_eq_true c4
          clear c4
          obtain ⟨y184, hy184⟩ : ∃ y_ : List Bool, y_ = (x0_1.set (x5_1 : Int).toNat ((Int.tmod x1_1 3) == 0)) := ⟨_, rfl⟩
          replace H : (laws_markBoolS.l0 k1 y184 (wrap64 (x1_1 + 1)) (wrap64 (x5_1 + 1))) = some (r1, r2) := by first | (rw [hy184]; with_reducible exact H) | (have H2_ := (Option.bind_some _ _).symm.trans H; rw [hy184]; with_reducible exact H2_) | (have H2_ := (Option.bind_some _ _).symm.trans H; with_reducible exact H2_) | with_reducible exact H | (rw [hy184]; exact H) | exact H
          have Ny184 := Aside0.mk hy184
          clear hy184
          have H' := Aside0.mk H
          clear H
          obtain ⟨Ao6, co6, eo6⟩ := Kd.R_slice HO_0.out
          subst eo6
          have p5 : 0 ≤ (x5_1 : Int) := of_decide_eq_true (by first | (with_reducible assumption) | assumption)
          have q5 : (x5_1 : Int) < ((x0_1.length : Int) : Int) := of_decide_eq_true (by first | (with_reducible assumption) | assumption)
          obtain ⟨go5, co5, eo5, gb5, gl5, cl5, HG5⟩ := Kd.R_form HO_0.out (by omega)
          (first | cases eo5 | (injection eo5 with ea_ en_ ec_; (first | subst ea_ | (injection ea_ with ea_; subst ea_)); subst ec_; clear en_))
          have GB5 := Aside0.mk gb5
          have GG5 := Aside0.mk HG5
          clear gb5 gl5 HG5
          have HMgo5 := Aside0.mk (show (P0_ go5 ∨ w.heap.size ≤ go5) from (HO_0.out.1 _ rfl))
          obtain ⟨hx5_0, hf5_0⟩ := Kd.R_celln false HO_0.out (x5_1 : Int) p5 q5
          replace p5 := eq_true p5
          replace q5 := eq_true q5
          have HP7 := Kd.R_putg HO_0.out (x5_1 : Int) ((Int.tmod x1_1 3) == 0)
          go_wp2_with (first | ((with_reducible refine gate_store (t := 4) (p := 17) rfl ?_); refine store_event (t := 4) (p := 17) (v := ?vo_w8) (w1 := (wr.setCell ⟨go5, (x5_1 : Int).toNat, none⟩ (.bool ((Int.tmod x1_1 3) == 0)))) ?hg ?ho ?hn ?hr ?_; (case ho => rfl); (case hg => rfl); (case hn => rfl); (case hr => first | (go_simp; done) | (go_simp; rfl)); intro w8 hw; have hg : wr.grownBy w8 (some go5) := (by rw [hw]; exact HP7.2); have hp_ : Kd.R Kd.bool 4 w8 w0.heap.size (fun k_ => (P0_ k_ ∨ w.heap.size ≤ k_)) (.slice (some ⟨go5, 0, none⟩) x0_1.length co6) y184 := (by rw [hw, Ny184.out]; exact HP7.1); clear HP7; have n0_ := Aside0.mk (hp_); have n1_ := Aside0.mk ((by rw [hw]; exact below_set (HB.out) GB5.out : Below w0.heap.size w0 w8)); have n2_ := Aside0.mk (Kept.of_grown (S := (fun k_ => P0_ k_)) hg (by repeat (first | (with_reducible first | exact HK.out | apply Kept.alloc | apply Kept.drewN | apply Kept.drew) | exact HK.out)) (fun k_ e_ => (HO_0.out.1 k_ e_))); clear HO_0; clear HB; clear HK; have HO_0 := n0_; have HB := n1_; have HK := n2_; clear n0_ n1_ n2_; clear hg hw hp_))
          go_roundg k1
          case measure => have := HK1.out; omega
          case rel => exact ⟨(y184), (wrap64 (x1_1 + 1)), (wrap64 (x5_1 + 1)), (by first | rfl | (simp; done) | (simp [*]; done) | (simp; unfold wrap64; omega)), (by first | rfl | (simp; done) | (simp [*]; done) | (simp; unfold wrap64; omega)), H', ⟨by have := HK1.out; omega⟩, ⟨by (with_reducible repeat (first | apply Kd.R_alloc | apply Kd.R_drewN | apply Kd.R_drew)); exact HO_0.out⟩, ⟨by repeat (first | (with_reducible first | exact HK.out | apply Kept.alloc | apply Kept.drewN | apply Kept.drew) | exact HK.out)⟩, ⟨by repeat (first | (with_reducible first | exact HB.out | apply below_alloc | apply pw_below_drewN | apply below_drew1) | exact HB.out)⟩⟩
        · rw [if_neg c4] at H
          exact absurd H (by simp)
      · rw [if_neg c3] at H
        have c3b0 : decide (x5_1 < (x0_1.length : Int)) = false := decide_eq_false c3
        clear c3
        simp only [Option.some.injEq, Prod.mk.injEq] at H
        obtain ⟨rfl, rfl⟩ := H
        obtain ⟨Ao9, co9, eo9⟩ := Kd.R_slice HO_0.out
        subst eo9
        go_wp2
        go_ret
        exact ⟨by first | rfl | (simp [errW_none, errW_some] <;> rfl) | (simp [*, errW_none, errW_some] <;> rfl), by (with_reducible repeat (first | apply Kd.R_alloc | apply Kd.R_drewN | apply Kd.R_drew)); exact HO_0.out, by repeat (first | (with_reducible first | exact HB.out | apply below_alloc | apply pw_below_drewN | apply below_drew1) | exact HB.out), by repeat (first | (with_reducible first | exact HK.out | apply Kept.alloc | apply Kept.drewN | apply Kept.drew) | exact HK.out)⟩



/-! ### laws_heldBoolS: function 18 -/

def laws_heldBoolS.l0 : Nat → List Bool → Int → Int → Option (Int)
  | 0, _, _, _ => none
  | k + 1, x0, x1, x5 => if x5 < (x0.length : Int) then (if 0 ≤ x5 then (if ((rdOf false x0 x5) != ((Int.tmod x1 3) == 0)) = true then (some (-1)) else (laws_heldBoolS.l0 k x0 (wrap64 (x1 + 1)) (wrap64 (x5 + 1)))) else (none)) else (some x1)

def laws_heldBoolS.f (k : Nat) (l0 : List Bool) (a1 : Int) : Option (Int) := laws_heldBoolS.l0 k l0 a1 0

theorem laws_heldBoolS.mono_l : ∀ k, (∀ y0 y1 y2, LeO (laws_heldBoolS.l0 k y0 y1 y2) (laws_heldBoolS.l0 (k + 1) y0 y1 y2))
  | 0 => fun _ _ _ r h => by simp [laws_heldBoolS.l0] at h
  | k + 1 => by
    have ih0 := laws_heldBoolS.mono_l k
    · intro y0 y1 y2
      unfold laws_heldBoolS.l0
      repeat' first
      | (with_reducible exact ih0 _ _ _)
      | (with_reducible exact LeO.refl _)
      | (with_reducible exact LeO.none _)
      | (with_reducible refine LeO.ite ?_ ?_)
      | (with_reducible refine LeO.bind ?_ (fun _ => ?_))
      | exact ih0 _ _ _
      | exact LeO.none _
      | refine LeO.ite ?_ ?_
      | refine LeO.bind ?_ (fun _ => ?_)

theorem laws_heldBoolS.mono : ∀ a0 a1 k, LeO (laws_heldBoolS.f k a0 a1) (laws_heldBoolS.f (k + 1) a0 a1) := by
  intro a0 a1 k
  have ih0 := laws_heldBoolS.mono_l k
  unfold laws_heldBoolS.f
  repeat' first
      | (with_reducible exact ih0 _ _ _)
      | (with_reducible exact LeO.refl _)
      | (with_reducible exact LeO.none _)
      | (with_reducible refine LeO.ite ?_ ?_)
      | (with_reducible refine LeO.bind ?_ (fun _ => ?_))
      | exact ih0 _ _ _
      | exact LeO.none _
      | refine LeO.ite ?_ ?_
      | refine LeO.bind ?_ (fun _ => ?_)

set_option maxHeartbeats 8000000 in
set_option maxRecDepth 100000 in
theorem laws_heldBoolS.calls (k : Nat) (A0 : Option Addr) (c0 : Nat) (l0 : List Bool) (a1 : Int) (r : Int) (w : World) (hr0 : Kd.C Kd.bool w A0 l0.length l0) (hc0 : l0.length ≤ c0) (h : laws_heldBoolS.f k l0 a1 = some r) :
    Calls Try.prog 18 #[.slice A0 l0.length c0, .int .i64 a1] w fun e w' => e = .returned (.int .i64 r) ∧ Drawn0 w w' := by
  have HR0 := Aside0.mk hr0
  have HC0 := Aside0.mk hc0
  clear hr0 hc0
  have H : (laws_heldBoolS.l0 k l0 a1 0) = some r := h
  clear h
  have H' := Aside0.mk H
  clear H
  go_enter Try.func18, Try.ntmps18
  go_wp2
  go_loopg [1, 5] k (fun kq v1 v5 w' => ∃ (x1_1 : Int) (x5_1 : Int), v1 = .int .i64 x1_1 ∧ v5 = .int .i64 x5_1 ∧ Aside0 (laws_heldBoolS.l0 kq l0 x1_1 x5_1 = some r) ∧ Aside0 (kq ≤ k) ∧ Drawn0 w w')
  case atStart => exact ⟨(a1), (0), (by first | rfl | (simp; done) | (simp [*]; done) | (simp; unfold wrap64; omega)), (by first | rfl | (simp; done) | (simp [*]; done) | (simp; unfold wrap64; omega)), H', ⟨Nat.le_refl _⟩, by repeat (first | exact Drawn0.refl _ | apply Drawn0.step)⟩
  case round =>
    clear H'
    try clear c1
    try clear p2
    obtain ⟨x1_1, x5_1, rfl, rfl, HA, HK1, ⟨m1, rfl⟩⟩ := hrel
    cases gk with
    | zero => exact absurd HA.out (by simp [laws_heldBoolS.l0])
    | succ k1 =>
      have H := HA.out
      clear HA
      simp only [laws_heldBoolS.l0] at H
      by_cases c3 : x5_1 < (l0.length : Int)
      · rw [if_pos c3] at H
        have c3b0 : decide (x5_1 < (l0.length : Int)) = true := decide_eq_true c3
        clear c3
        by_cases c4 : 0 ≤ x5_1
        · rw [if_pos c4] at H
          have c4b0 : decide (0 ≤ x5_1) = true := decide_eq_true c4
          clear c4
          by_cases c5 : ((rdOf false l0 x5_1) != ((Int.tmod x1_1 3) == 0)) = true
          · rw [if_pos c5] at H
            have c5b0 : ((rdOf false l0 x5_1) != ((Int.tmod x1_1 3) == 0)) = true := c5
            (try (have c5b1 : decide ((rdOf false l0 x5_1) = ((Int.tmod x1_1 3) == 0)) = false := by simpa using c5))
            (try (have c5b2 : ((rdOf false l0 x5_1) == ((Int.tmod x1_1 3) == 0)) = false := by simpa using c5))
            (try (have c5b3 : ¬ ((rdOf false l0 x5_1) = ((Int.tmod x1_1 3) == 0)) := by simpa using c5))
            clear c5
            obtain rfl := Option.some.inj H
            have p185 : 0 ≤ (x5_1 : Int) := of_decide_eq_true (by first | (with_reducible assumption) | assumption)
            have q185 : x5_1 < (l0.length : Int) := of_decide_eq_true (by first | (with_reducible assumption) | assumption)
            obtain ⟨ad185, e185, hx185_0⟩ := Kd.at_bool HR0.out x5_1 p185 q185
            cases e185
            replace p185 := eq_true p185
            replace q185 := eq_true q185
            go_wp2
            go_ret
            exact ⟨by first | rfl | (simp; done) | (simp [*]; done), by repeat (first | exact Drawn0.refl _ | apply Drawn0.step)⟩
          · rw [if_neg c5] at H
            have c5b0 : ((rdOf false l0 x5_1) != ((Int.tmod x1_1 3) == 0)) = false := by simpa using c5
            (try (have c5b1 : decide ((rdOf false l0 x5_1) = ((Int.tmod x1_1 3) == 0)) = true := by simpa using c5))
            (try (have c5b2 : ((rdOf false l0 x5_1) == ((Int.tmod x1_1 3) == 0)) = true := by simpa using c5))
            clear c5
            have H' := Aside0.mk H
            clear H
            have p185 : 0 ≤ (x5_1 : Int) := of_decide_eq_true (by first | (with_reducible assumption) | assumption)
            have q185 : x5_1 < (l0.length : Int) := of_decide_eq_true (by first | (with_reducible assumption) | assumption)
            obtain ⟨ad185, e185, hx185_0⟩ := Kd.at_bool HR0.out x5_1 p185 q185
            cases e185
            replace p185 := eq_true p185
            replace q185 := eq_true q185
            go_wp2
            go_roundg k1
            case measure => have := HK1.out; omega
            case rel => exact ⟨(wrap64 (x1_1 + 1)), (wrap64 (x5_1 + 1)), (by first | rfl | (simp; done) | (simp [*]; done) | (simp; unfold wrap64; omega)), (by first | rfl | (simp; done) | (simp [*]; done) | (simp; unfold wrap64; omega)), H', ⟨by have := HK1.out; omega⟩, by repeat (first | exact Drawn0.refl _ | apply Drawn0.step)⟩
        · rw [if_neg c4] at H
          exact absurd H (by simp)
      · rw [if_neg c3] at H
        have c3b0 : decide (x5_1 < (l0.length : Int)) = false := decide_eq_false c3
        clear c3
        obtain rfl := Option.some.inj H
        go_wp2
        go_ret
        exact ⟨by first | rfl | (simp; done) | (simp [*]; done), by repeat (first | exact Drawn0.refl _ | apply Drawn0.step)⟩



/-! ### laws_FnExactStanding: function 5 -/

def laws_FnExactStanding.j0 : Nat → List (S37) → List Bool → List Bool → Bool → Option (Bool)
  | 0, _, _, _, _ => none
  | k + 1, x0, x4, x6, x42 => if x42 = true then (some false) else ((laws_markBoolS.f k x6 1).bind fun bt206 => ((laws_heldBoolS.f k bt206.2 1).bind fun t208 => (if t208 < 0 then (some false) else (if t208 = bt206.1 then ((laws_toStepS.f k x0).bind fun t209 => ((impl_Standing.f t209).bind fun t212 => ((laws_eqBoolS.f k t212 x4).bind fun t215 => (if t215 = true then ((laws_heldBoolS.f k bt206.2 1).bind fun t216 => (if t216 < 0 then (some false) else (if t216 = bt206.1 then (some true) else (some false)))) else (some false))))) else (some false)))))

def laws_FnExactStanding.f (k : Nat) (l0 : List (S37)) : Option (Bool) := (laws_szStepS.f k l0 1048576).bind fun t186 => (if t186 < 0 then (some true) else ((laws_toStepS.f k l0).bind fun t187 => ((spec_Standing.f k t187).bind fun t190 => ((laws_toStepS.f k l0).bind fun t193 => ((impl_Standing.f t193).bind fun t196 => ((laws_eqBoolS.f k t196 t190).bind fun t199 => (if t199 = true then ((laws_toStepS.f k l0).bind fun t200 => ((laws_eqStepS.f k t193 t200).bind fun t203 => (if t203 = true then ((laws_markStepS.f t193 1).bind fun t204 => (if t204 < 0 then (laws_FnExactStanding.j0 k l0 t190 t196 true) else ((laws_eqBoolS.f k t196 t190).bind fun t205 => (laws_FnExactStanding.j0 k l0 t190 t196 (!t205))))) else (some false)))) else (some false))))))))

theorem laws_FnExactStanding.mono_l : ∀ k, (∀ y0 y1 y2 y3, LeO (laws_FnExactStanding.j0 k y0 y1 y2 y3) (laws_FnExactStanding.j0 (k + 1) y0 y1 y2 y3))
  | 0 => fun _ _ _ _ r h => by simp [laws_FnExactStanding.j0] at h
  | k + 1 => by
    have ih0 := laws_FnExactStanding.mono_l k
    · intro y0 y1 y2 y3
      unfold laws_FnExactStanding.j0
      repeat' first
      | (with_reducible exact ih0 _ _ _ _)
      | (with_reducible exact laws_eqBoolS.mono _ _ _)
      | (with_reducible exact laws_eqStepS.mono _ _ _)
      | (with_reducible exact laws_heldBoolS.mono _ _ _)
      | (with_reducible exact laws_markBoolS.mono _ _ _)
      | (with_reducible exact laws_szStepS.mono _ _ _)
      | (with_reducible exact laws_toStepS.mono _ _)
      | (with_reducible exact spec_Standing.mono _ _)
      | (with_reducible exact LeO.refl _)
      | (with_reducible exact LeO.none _)
      | (with_reducible refine LeO.ite ?_ ?_)
      | (with_reducible refine LeO.bind ?_ (fun _ => ?_))
      | exact ih0 _ _ _ _
      | exact laws_eqBoolS.mono _ _ _
      | exact laws_eqStepS.mono _ _ _
      | exact laws_heldBoolS.mono _ _ _
      | exact laws_markBoolS.mono _ _ _
      | exact laws_szStepS.mono _ _ _
      | exact laws_toStepS.mono _ _
      | exact spec_Standing.mono _ _
      | exact LeO.none _
      | refine LeO.ite ?_ ?_
      | refine LeO.bind ?_ (fun _ => ?_)

theorem laws_FnExactStanding.mono : ∀ a0 k, LeO (laws_FnExactStanding.f k a0) (laws_FnExactStanding.f (k + 1) a0) := by
  intro a0 k
  have ih0 := laws_FnExactStanding.mono_l k
  unfold laws_FnExactStanding.f
  repeat' first
      | (with_reducible exact ih0 _ _ _ _)
      | (with_reducible exact laws_eqBoolS.mono _ _ _)
      | (with_reducible exact laws_eqStepS.mono _ _ _)
      | (with_reducible exact laws_heldBoolS.mono _ _ _)
      | (with_reducible exact laws_markBoolS.mono _ _ _)
      | (with_reducible exact laws_szStepS.mono _ _ _)
      | (with_reducible exact laws_toStepS.mono _ _)
      | (with_reducible exact spec_Standing.mono _ _)
      | (with_reducible exact LeO.refl _)
      | (with_reducible exact LeO.none _)
      | (with_reducible refine LeO.ite ?_ ?_)
      | (with_reducible refine LeO.bind ?_ (fun _ => ?_))
      | exact ih0 _ _ _ _
      | exact laws_eqBoolS.mono _ _ _
      | exact laws_eqStepS.mono _ _ _
      | exact laws_heldBoolS.mono _ _ _
      | exact laws_markBoolS.mono _ _ _
      | exact laws_szStepS.mono _ _ _
      | exact laws_toStepS.mono _ _
      | exact spec_Standing.mono _ _
      | exact LeO.none _
      | refine LeO.ite ?_ ?_
      | refine LeO.bind ?_ (fun _ => ?_)

set_option maxHeartbeats 8000000 in
set_option maxRecDepth 100000 in
theorem laws_FnExactStanding.calls_p1 (k : Nat) (A0 : Option Addr) (c0 : Nat) (l0 : List (S37)) (r : Bool) (w : World) (hr0 : Kd.C k37 w A0 l0.length l0) (hc0 : l0.length ≤ c0) (t186 : _) (A2 : Aside0 ((laws_szStepS.f k l0 1048576) = some t186)) (c3 : t186 < 0) (H : (some true) = some r) :
    Calls Try.prog 5 #[.slice A0 l0.length c0] w fun e w' => e = .returned (.bool r) ∧ Below w.heap.size w w' := by
  have HR0 := Aside0.mk hr0
  have HC0 := Aside0.mk hc0
  clear hr0 hc0
  have HB := Aside0.mk (Below.refl w.heap.size w)
  have c3b0 : decide (t186 < 0) = true := decide_eq_true c3
  clear c3
  obtain rfl := Option.some.inj H
  go_enter Try.func5, Try.ntmps5
  go_wp2_with (first | ((with_reducible refine gate_callee (f := 6) rfl ?_); refine goesL_ (some 13) rfl rfl Try.func6 (by kernel_rfl) rfl #[.slice A0 l0.length c0, .int .i64 1048576] rfl (by (try simp only [List.map_toArray, List.map_cons, List.map_nil]); first | done | rfl | (simp only [List.length_drop, List.length_take]; rfl)) ?_; (with_reducible refine (laws_szStepS.calls k _ _ l0 1048576 t186 _ ?side1 ?side2 A2.out).mono ?_); (case side1 => repeat (first | exact HR0.out | (with_reducible refine Kd.C_alloc ?_ _) | (with_reducible refine Kd.C_drewN ?_ _) | (with_reducible refine Kd.C_drew ?_))); (case side2 => exact HC0.out); rintro e w4 ⟨rfl, hb⟩; refine ⟨_, rfl, ?_⟩; have n0_ := Aside0.mk (below_step (by repeat (first | (with_reducible first | exact HB.out | apply below_alloc | apply pw_below_drewN | apply below_drew1) | exact HB.out)) hb); clear HB; have HB := n0_; clear n0_; (try clear hb); (try clear hb2); (try clear hk); (try clear hi)))
  go_ret
  exact ⟨by first | rfl | (simp [errW_none, errW_some] <;> rfl) | (simp [*, errW_none, errW_some] <;> rfl), by repeat (first | (with_reducible first | exact HB.out | apply below_alloc | apply pw_below_drewN | apply below_drew1) | exact HB.out)⟩

end Go.Proofs.Ytffamggcjijobaa.PFnExactStanding
