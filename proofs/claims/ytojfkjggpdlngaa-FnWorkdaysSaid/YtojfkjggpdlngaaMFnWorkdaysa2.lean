/- Functions of the program as Lean functions, and proofs that the Go code comes to their answers: for the law FnWorkdays; made out of the print by a program of mine (doorprint.py), with walks of my own in the place of some functions. No conditions but each theorem's own. -/
import Derived.Test.YtojfkjggpdlngaaMFnWorkdaysa0
import Derived.Test.YtojfkjggpdlngaaMFnWorkdaysa1
import Derived.IntWalk
import Derived.Maps.OwnSet
import Derived.Lib.Hide
namespace Go.Proofs.Ytojfkjggpdlngaa.PFnWorkdays
open Go.RowKit Go.Proofs.YtojfkjggpdlngaaW.PrintWords Go.Proofs.YtojfkjggpdlngaaW.PrintLast Go.Proofs.YtojfkjggpdlngaaW.PrintMore
attribute [local go_sem] max2_int min2_int max_two min_two max_three min_three max_four min_four   -- for this text's walks alone
set_option linter.unusedVariables false
set_option linter.unusedSimpArgs false

/-! ### impl_Workdays: function 9 -/
/-! plain facts on whole numbers -/
theorem wrap_id {x : Int} (h1 : -9223372036854775808 ≤ x) (h2 : x ≤ 9223372036854775807) : wrap64 x = x := by
  unfold wrap64; omega
theorem td_pos {a b : Int} (h : 0 ≤ a) : a.tdiv b = a / b := Int.tdiv_eq_ediv_of_nonneg h
theorem td_neg {a b : Int} (h : a ≤ 0) : a.tdiv b = -((-a) / b) := by
  rw [← Int.tdiv_eq_ediv_of_nonneg (by omega : 0 ≤ -a), Int.neg_tdiv]; omega
theorem tm_pos {a b : Int} (h : 0 ≤ a) : a.tmod b = a % b := Int.tmod_eq_emod_of_nonneg h
theorem tm_neg {a b : Int} (h : a ≤ 0) : a.tmod b = -((-a) % b) := by
  rw [← Int.tmod_eq_emod_of_nonneg (by omega : 0 ≤ -a), Int.neg_tmod]; omega
theorem tm_zero (a b : Int) : a.tmod b = 0 ↔ a % b = 0 := by
  rw [← Int.dvd_iff_tmod_eq_zero, ← Int.dvd_iff_emod_eq_zero]
theorem ediv_is {a b q r : Int} (hb : 0 < b) (h : a = b * q + r) (h0 : 0 ≤ r) (h1 : r < b) : a / b = q := by
  rw [h, Int.add_comm, Int.add_mul_ediv_left _ _ (by omega), Int.ediv_eq_zero_of_lt h0 h1]; omega
theorem ediv_neg_of {a b : Int} (hb : 0 < b) (h : a.tmod b = 0) : a.tdiv b = a / b := by
  have e := Int.mul_tdiv_add_tmod a b
  rw [h] at e
  exact (ediv_is hb (q := a.tdiv b) (r := 0) (by omega) (by omega) hb).symm
theorem ediv_floor {a b : Int} (hb : 0 < b) (ha : a < 0) (h : a.tmod b ≠ 0) : a.tdiv b - 1 = a / b := by
  have e := Int.mul_tdiv_add_tmod a b
  have hm := tm_neg (a := a) (b := b) (by omega)
  have h0 := Int.emod_nonneg (-a) (by omega : b ≠ 0)
  have h1 := Int.emod_lt_of_pos (-a) hb
  refine (ediv_is hb (q := a.tdiv b - 1) (r := a.tmod b + b) ?_ (by omega) (by omega)).symm
  rw [Int.mul_sub]; omega
/-- The floor, as both programs reckon it. -/
theorem floor_is {a b : Int} (hb : 0 < b) (h1 : -4611686018427387904 ≤ a) (h2 : a ≤ 4611686018427387904) :
    (if b = 0 then (none) else (if (Int.tmod a b) = 0 then (some (wrap64 (Int.tdiv a b))) else (if ((decide (a < 0)) != (decide (b < 0))) = true then (some (wrap64 ((wrap64 (Int.tdiv a b)) - 1))) else (some (wrap64 (Int.tdiv a b)))))) = some (a / b) := by
  have hle : a / b ≤ 4611686018427387904 := by
    by_cases h : 0 ≤ a
    · exact Int.le_trans (Int.ediv_le_self b h) h2
    · have := Int.ediv_neg_of_neg_of_pos (by omega : a < 0) hb; omega
  have hge : -4611686018427387904 ≤ a / b := by
    by_cases h : 0 ≤ a
    · have := Int.ediv_nonneg h (by omega : 0 ≤ b); omega
    · exact Int.le_ediv_of_mul_le hb (by have : -4611686018427387904 * b ≤ -4611686018427387904 * 1 := by omega
                                         omega)
  rw [if_neg (by omega : ¬ b = 0)]
  by_cases hm : Int.tmod a b = 0
  · rw [if_pos hm, ediv_neg_of hb hm, wrap_id (by omega) (by omega)]
  · rw [if_neg hm]
    by_cases ha : a < 0
    · have e := ediv_floor hb ha hm
      rw [if_pos (by simp [ha]; omega), wrap_id (x := Int.tdiv a b) (by omega) (by omega), e, wrap_id (by omega) (by omega)]
    · rw [if_neg (by simp [ha]; omega), td_pos (by omega), wrap_id (by omega) (by omega)]
/-! workdays: what both programs reckon -/
def dayB (d : Int) : Bool := decide (-1000000 ≤ d ∧ d ≤ 1000000)
def wuV (d : Int) : Int := (d + 7000005) / 7 * 5 + (if (d + 7000005) % 7 < 5 then (d + 7000005) % 7 else 5)
/-- How many of the first j free days count. -/
def freeN (lo hi : Int) (l : List Int) : Nat → Int
  | 0 => 0
  | j + 1 => freeN lo hi l j + (if lo ≤ rd l j ∧ rd l j ≤ hi ∧ rd l j ∉ l.take j ∧ (rd l j + 5) % 7 < 5 then 1 else 0)
theorem freeN_le (lo hi : Int) (l : List Int) : ∀ j : Nat, 0 ≤ freeN lo hi l j ∧ freeN lo hi l j ≤ j
  | 0 => ⟨Int.le_refl _, Int.le_refl _⟩
  | j + 1 => by
    have := freeN_le lo hi l j
    unfold freeN
    split <;> omega
theorem take_rd (l : List Int) (j : Nat) (h : j < l.length) : l.take (j + 1) = l.take j ++ [rd l j] := by
  rw [List.take_add_one]
  simp [rd, h]
theorem wuV_le (d : Int) (h : -1000001 ≤ d ∧ d ≤ 1000001) : 4285000 ≤ wuV d ∧ wuV d ≤ 5715000 := by
  unfold wuV; split <;> omega
def coreW (lo hi : Int) (l : List Int) : Int := wuV (hi + 1) - wuV lo - freeN lo hi l l.length
theorem wuV_weeks (d k : Int) : wuV (d + 7 * k) = wuV d + 5 * k := by
  unfold wuV
  have e1 : (d + 7 * k + 7000005) / 7 = (d + 7000005) / 7 + k := by omega
  have e2 : (d + 7 * k + 7000005) % 7 = (d + 7000005) % 7 := by omega
  rw [e1, e2]; split <;> omega
theorem wuV_step (d : Int) : wuV (d + 1) = wuV d + (if (d + 5) % 7 < 5 then 1 else 0) := by
  unfold wuV
  split <;> split <;> split <;> omega
theorem dayB_iff {d : Int} : dayB d = true ↔ (-1000000 ≤ d ∧ d ≤ 1000000) := by unfold dayB; exact decide_eq_true_iff
theorem coreW_le (a b : Int) (l : List Int) (ha : -1000001 ≤ a ∧ a ≤ 1000001) (hb : -1000001 ≤ b + 1 ∧ b + 1 ≤ 1000001) (hl : l.length ≤ 1000) : -3000000 ≤ coreW a b l ∧ coreW a b l ≤ 3000000 := by
  have := wuV_le a ha; have := wuV_le (b + 1) hb; have := freeN_le a b l l.length
  unfold coreW; omega
def implWorkV (a b : Int) (l : List Int) : Int := if dayB a && dayB b && decide (l.length ≤ 1000) then (if b < a then -(coreW b a l) else coreW a b l) else 0

/-! a map from whole numbers to truths: which numbers it holds -/
def SeenM (P : Program) (kt et : TypeId) (w : World) (b : Nat) (S : List Int) : Prop :=
  ∃ (n : Nat) (D : DataW Nat), n ≤ S.length ∧ w.ownsMap P kt (plainElem P et) b n D ∧ Maps.IsMap D ∧ ∀ x, (Lit.int .i64 x).wf = true → D.atKey (.int .i64 x) (.lit (.bool false)) = .lit (.bool (decide (x ∈ S)))
theorem seen_made (P : Program) (kt et : TypeId) (w : World) : SeenM P kt et (w.alloc (.map #[] 0)) w.heap.size [] :=
  ⟨0, .map [], Nat.le_refl _, World.ownsMap_made w P kt _, Maps.isMap_empty, fun x _ => by simp [DataW.atKey]⟩
theorem SeenM.kept {P : Program} {kt et : TypeId} {w w' : World} {b : Nat} {S : List Int} (h : SeenM P kt et w b S) {row : Option Nat} (hg : w.grownBy w' row) (hne : some b ≠ row) : SeenM P kt et w' b S := by
  obtain ⟨n, D, h1, h2, h3, h4⟩ := h
  exact ⟨n, D, h1, h2.kept hg hne, h3, h4⟩
theorem SeenM.drewN {P : Program} {kt et : TypeId} {w : World} {b : Nat} {S : List Int} (h : SeenM P kt et w b S) (q : Nat) : SeenM P kt et (w.drewN q) b S := h
theorem SeenM.lt {P : Program} {kt et : TypeId} {w : World} {b : Nat} {S : List Int} (h : SeenM P kt et w b S) : b < w.heap.size := by
  obtain ⟨n, D, h1, h2, h3, h4⟩ := h
  exact h2.lt
theorem plainElem_bool_inv {P : Program} {e : TypeId} (he : P.underlying e = some .bool) {v : Value} {z : DataW Nat × List MemPlace} (h : plainElem P e v = some z) : ∃ x, v = .bool x ∧ z = (.lit (.bool x), []) := by
  unfold plainElem at h
  rw [he] at h
  split at h
  · rename_i x _; exact ⟨x, rfl, by cases h; rfl⟩
  · rename_i h1; cases h1
  · rename_i h1; cases h1
  · cases h
theorem SeenM.look {P : Program} {kt et mt : TypeId} {w : World} {b : Nat} {S : List Int} (h : SeenM P kt et w b S) (hk : P.underlying kt = some (.int .i64)) (he : P.underlying et = some .bool) (hm : P.underlying mt = some (.map kt et))
    (hz : (zeroValue et).run P w = .ok (.bool false) w) {x : Int} (hx : (Lit.int .i64 x).wf = true) : (Instr.lookup mt (.map (some b)) (.int .i64 x) false).run P w = .ok (.bool (decide (x ∈ S))) w := by
  obtain ⟨n, D, h1, h2, h3, h4⟩ := h
  obtain ⟨v, ps, hrun, hv⟩ := h2.lookup (Maps.int_keyed hk) hm hz (plainElem_bool he false) (Maps.keyOf_int_mk hk hx)
  rw [h4 x hx] at hv
  obtain ⟨y, rfl, hy⟩ := plainElem_bool_inv he hv
  simp only [Prod.mk.injEq, DataW.lit.injEq, Lit.bool.injEq] at hy
  rw [hrun, hy.1]
theorem SeenM.put {P : Program} {kt et mt : TypeId} {w : World} {b : Nat} {S : List Int} (h : SeenM P kt et w b S) (hk : P.underlying kt = some (.int .i64)) (he : P.underlying et = some .bool) (hm : P.underlying mt = some (.map kt et))
    (hn : S.length < maxLen) {x : Int} (hx : (Lit.int .i64 x).wf = true) :
    ∃ w', (Instr.mapUpdate mt (.map (some b)) (.int .i64 x) (.bool true)).run P w = .ok () w' ∧ SeenM P kt et w' b (S ++ [x]) ∧ w.grownBy w' (some b) := by
  obtain ⟨n, D, h1, h2, h3, h4⟩ := h
  obtain ⟨w', hrun, hown, hg⟩ := h2.update (Maps.int_keyed hk) hm (by omega) (Maps.keyOf_int_mk hk hx) (plainElem_bool he true)
  refine ⟨w', hrun, ⟨n + 1, _, by simp; omega, hown, h3.put _ _, fun y hy => ?_⟩, hg⟩
  by_cases e : y = x
  · subst e
    rw [Maps.atKey_put_same h3 (by simp [WideAt.IsKeyLit])]
    simp
  · rw [Maps.atKey_put_other (by simpa using e), h4 y hy]
    simp [e]

theorem isDay_is (d : Int) : impl_isDay.f d = some (dayB d) := by
  unfold impl_isDay.f dayB
  by_cases h : d ≥ -1000000
  · rw [if_pos h]; congr 1; rw [decide_eq_decide]; omega
  · rw [if_neg h]; congr 1; symm; rw [decide_eq_false_iff_not]; omega
theorem workUpTo_is (d : Int) (h : -1000001 ≤ d ∧ d ≤ 1000001) : impl_workUpTo.f d = some (wuV d) := by
  unfold impl_workUpTo.f wuV mn
  rw [wrap_id (x := d + 7000000) (by omega) (by omega), wrap_id (x := d + 7000000 + 5) (by omega) (by omega), td_pos (by omega), tm_pos (by omega)]
  rw [wrap_id (x := (d + 7000000 + 5) / 7) (by omega) (by omega), wrap_id (x := (d + 7000000 + 5) / 7 * 5) (by omega) (by omega)]
  have e : d + 7000000 + 5 = d + 7000005 := by omega
  rw [e]
  congr 1
  by_cases h5 : (5 : Int) < (d + 7000005) % 7
  · rw [if_pos h5, if_neg (by omega), wrap_id (by omega) (by omega)]
  · rw [if_neg h5]
    by_cases h6 : (d + 7000005) % 7 < 5
    · rw [if_pos h6, wrap_id (by omega) (by omega)]
    · rw [if_neg h6, wrap_id (by omega) (by omega)]; omega
theorem weekday_is (d : Int) (h : dayB d = true) : impl_Weekday.f d = some ((d + 5) % 7) := by
  unfold impl_Weekday.f
  rw [isDay_is]
  have hd : -1000000 ≤ d ∧ d ≤ 1000000 := of_decide_eq_true h
  simp only [h, Option.bind_some, if_true]
  rw [wrap_id (x := d + 5) (by omega) (by omega)]
  unfold impl_floorMod_int.f
  have e : impl_floorDiv_int.f (d + 5) 7 = some ((d + 5) / 7) := by unfold impl_floorDiv_int.f; exact floor_is (by omega) (by omega) (by omega)
  rw [e]
  simp only [Option.bind_some]
  rw [wrap_id (x := (d + 5) / 7 * 7) (by omega) (by omega), wrap_id (by omega) (by omega)]
  congr 1; omega
set_option maxHeartbeats 4000000 in
set_option maxRecDepth 100000 in
theorem implWork_up (a b : Int) (A2 : Option Addr) (c2 : Nat) (l : List Int) (w : World) (hr : Kd.C (Kd.int .i64) w A2 l.length l) (hc : l.length ≤ c2) (hw : ∀ x ∈ l, (Lit.int .i64 x).wf = true)
    (hl : l.length ≤ 1000) (ha : dayB a = true) (hb : dayB b = true) (hab : a ≤ b) :
    Calls Try.prog 9 #[.int .i64 a, .int .i64 b, .slice A2 l.length c2] w fun e w' => e = .returned (.int .i64 (coreW a b l)) ∧ Below w.heap.size w w' := by
  have ha' := dayB_iff.1 ha
  have hb' := dayB_iff.1 hb
  have hga := isDay_is a
  have hgb := isDay_is b
  rw [ha] at hga; rw [hb] at hgb
  have hua := workUpTo_is a (by omega)
  have hub := workUpTo_is (b + 1) (by omega)
  have l1 := wuV_le a (by omega)
  have l2 := wuV_le (b + 1) (by omega)
  have ew : IntKind.i64.wrap (b + 1) = b + 1 := IntWalk.i64_in _ (by omega)
  have ews : IntKind.i64.wrap (wuV (b + 1) - wuV a) = wuV (b + 1) - wuV a := IntWalk.i64_in _ (by omega)
  have blen : decide ((l.length : Int) > 1000) = false := decide_eq_false (by omega)
  have bba : decide (b < a) = false := decide_eq_false (by omega)
  have hcell := fun (j : Nat) (hj : j < l.length) => Kd.at_int hr (j : Int) (by omega) (by omega)
  have HGA := Lib.hid hga; have HGB := Lib.hid hgb; have HUA := Lib.hid hua; have HUB := Lib.hid hub; have HCL := Lib.hid hcell; have HA := Lib.hid ha'; have HB2 := Lib.hid hb'; have HL := Lib.hid hl; have HW := Lib.hid hw; have HC := Lib.hid hc; have L1 := Lib.hid l1; have L2 := Lib.hid l2
  clear hga hgb hua hub hcell ha hb ha' hb' hl hw hr hc l1 l2 hab
  go_enter Try.func9, Try.ntmps9
  go_wp2_with fail
  refine (impl_isDay.calls _ _ _ HGA.out).mono ?_; rintro e w1 ⟨rfl, hd⟩; obtain ⟨q1, rfl⟩ := hd.out; clear hd
  go_wp2_with fail
  refine (impl_isDay.calls _ _ _ HGB.out).mono ?_; rintro e w1 ⟨rfl, hd⟩; obtain ⟨q2, rfl⟩ := hd.out; clear hd
  go_wp2_with fail
  refine (impl_workUpTo.calls _ _ _ HUB.out).mono ?_; rintro e w1 ⟨rfl, hd⟩; have HD1 := Lib.hid hd; clear hd
  go_wp2_with fail
  refine (impl_workUpTo.calls _ _ _ HUA.out).mono ?_; rintro e w2 ⟨rfl, hd⟩; have HD := Lib.hid (below_step (pw_below_drewN (Below.refl w.heap.size w) (q1 + q2)) (below_step HD1.out hd)); clear hd HD1
  have hsz := below_size HD.out
  have HSZ := Lib.hid hsz; clear hsz
  have hmade := seen_made Try.prog 3 4 w2
  have HM := Lib.hid hmade; clear hmade
  have hmk : (Instr.makeMap 72 none).run Try.prog w2 = .ok (.map (some w2.heap.size)) (w2.alloc (.map #[] 0)) := rfl
  go_wp2_with fail
  clear hmk
  go_loopw [41, 7] (fun i n w' => ∃ j : Nat, j ≤ l.length ∧ i = .int .i64 j ∧ n = .int .i64 (wuV (b + 1) - wuV a - freeN a b l j) ∧ Hid (Below w.heap.size w w') ∧ Hid (SeenM Try.prog 3 4 w' w2.heap.size (l.take j))) (fun i _ _ => l.length - (intOf i).toNat)
  case atStart => exact ⟨0, Nat.zero_le _, rfl, by simp [freeN], Lib.hid (below_alloc HD.out _), Lib.hid (by simpa using HM.out)⟩
  case round =>
    obtain ⟨j, hj, rfl, rfl, hbw, hseen⟩ := hrel
    by_cases hlt : j < l.length
    · obtain ⟨ad, e, hcell⟩ := HCL.out j hlt
      cases e
      rw [Int.toNat_natCast] at hcell
      replace hcell := (hbw.out.cell (World.block_lt_of_cell? w _ hcell)).trans hcell
      have hmem : rd l (j : Int) ∈ l := by
        unfold rd; rw [List.getD_eq_getElem?_getD]; simp [hlt]
      have hwf := HW.out _ hmem
      have htk := (take_rd l j hlt).symm
      have hsl : (l.take j).length < maxLen := Nat.lt_of_le_of_lt (Nat.le_trans (by rw [List.length_take]; omega) HL.out) (by decide : 1000 < maxLen)
      have hlook := hseen.out.look (mt := 72) Try.underlying3 Try.underlying4 Try.underlying72 (by rfl) hwf
      have hfl := freeN_le a b l j
      have hfs : freeN a b l (j + 1) = freeN a b l j + (if a ≤ rd l j ∧ rd l j ≤ b ∧ rd l j ∉ l.take j ∧ (rd l j + 5) % 7 < 5 then 1 else 0) := rfl
      have wj0 : (0 : Int) ≤ (j : Int) := Int.natCast_nonneg _
      have wj1 : (j : Int) < (l.length : Int) := by omega
      have wj2 : IntKind.i64.wrap ((j : Int) + 1) = (j : Int) + 1 := IntWalk.i64_in _ (by have := HL.out; omega)
      have wj3 : decide ((j : Int) < (l.length : Int)) = true := decide_eq_true wj1
      generalize hX : rd l (j : Int) = X at *
      have HWF := Lib.hid hwf; have HTK := Lib.hid htk; have HSL := Lib.hid hsl; have HFL := Lib.hid hfl; have HMEM := Lib.hid hmem; have HXX := Lib.hid hX; have HLT := Lib.hid hlt
      clear hwf htk hsl hfl hmem hX
      by_cases h1 : X ≥ a
      · have b1 : decide (X ≥ a) = true := decide_eq_true h1
        by_cases h2 : X ≤ b
        · have b2 : decide (X ≤ b) = true := decide_eq_true h2
          by_cases h3 : X ∈ l.take j
          · have b3 : decide (X ∈ l.take j) = true := decide_eq_true h3
            rw [b3] at hlook
            rw [if_neg (fun h => h.2.2.1 h3), Int.add_zero] at hfs
            have HF := Lib.hid hfs; clear hfs b3 h1 h2 h3
            obtain ⟨w9, hrun, hput, hgrow⟩ := SeenM.put (mt := 72) (hseen.out) Try.underlying3 Try.underlying4 Try.underlying72 (HSL.out) HWF.out
            have hbe := pw_below_grown (hbw.out) _ (Nat.le_trans HSZ.out (Nat.le_of_lt (SeenM.lt (hseen.out)))) hgrow (fun k hk => by cases hk; exact HSZ.out)
            rw [HTK.out] at hput
            have HBE := Lib.hid hbe; have HPUT := Lib.hid hput; clear hput hbe hgrow
            go_wp2_with fail
            go_roundw
            case rel => exact ⟨j + 1, by omega, by go_num, by rw [HF.out], HBE, HPUT⟩
            case measure => simp [intOf]; omega
          · have b3 : decide (X ∈ l.take j) = false := decide_eq_false h3
            rw [b3] at hlook
            have hwk := weekday_is X (dayB_iff.2 (by have := HA.out; have := HB2.out; omega))
            have HWK := Lib.hid hwk; clear hwk
            by_cases h4 : (X + 5) % 7 < 5
            · have b4 : decide ((X + 5) % 7 < 5) = true := decide_eq_true h4
              rw [if_pos ⟨h1, h2, h3, h4⟩] at hfs
              have wn : IntKind.i64.wrap (wuV (b + 1) - wuV a - freeN a b l j - 1) = wuV (b + 1) - wuV a - freeN a b l (j + 1) := by rw [IntWalk.i64_in _ (by have := HL.out; have := HFL.out; have := L1.out; have := L2.out; omega), hfs]; omega
              clear hfs b3 h1 h2 h3 h4
              go_wp2_with fail
              refine (impl_Weekday.calls _ _ _ HWK.out).mono ?_; rintro e w8 ⟨rfl, hd⟩; obtain ⟨q8, rfl⟩ := hd.out; clear hd
              obtain ⟨w9, hrun, hput, hgrow⟩ := SeenM.put (mt := 72) (hseen.out.drewN q8) Try.underlying3 Try.underlying4 Try.underlying72 (HSL.out) HWF.out
              have hbe := pw_below_grown (pw_below_drewN hbw.out q8) _ (Nat.le_trans HSZ.out (Nat.le_of_lt (SeenM.lt (hseen.out.drewN q8)))) hgrow (fun k hk => by cases hk; exact HSZ.out)
              rw [HTK.out] at hput
              have HBE := Lib.hid hbe; have HPUT := Lib.hid hput; clear hput hbe hgrow
              go_wp2_with fail
              go_roundw
              case rel => exact ⟨j + 1, by omega, by go_num, rfl, HBE, HPUT⟩
              case measure => simp [intOf]; omega
            · have b4 : decide ((X + 5) % 7 < 5) = false := decide_eq_false h4
              rw [if_neg (fun h => h4 h.2.2.2), Int.add_zero] at hfs
              have HF := Lib.hid hfs; clear hfs b3 h1 h2 h3 h4
              go_wp2_with fail
              refine (impl_Weekday.calls _ _ _ HWK.out).mono ?_; rintro e w8 ⟨rfl, hd⟩; obtain ⟨q8, rfl⟩ := hd.out; clear hd
              obtain ⟨w9, hrun, hput, hgrow⟩ := SeenM.put (mt := 72) (hseen.out.drewN q8) Try.underlying3 Try.underlying4 Try.underlying72 (HSL.out) HWF.out
              have hbe := pw_below_grown (pw_below_drewN hbw.out q8) _ (Nat.le_trans HSZ.out (Nat.le_of_lt (SeenM.lt (hseen.out.drewN q8)))) hgrow (fun k hk => by cases hk; exact HSZ.out)
              rw [HTK.out] at hput
              have HBE := Lib.hid hbe; have HPUT := Lib.hid hput; clear hput hbe hgrow
              go_wp2_with fail
              go_roundw
              case rel => exact ⟨j + 1, by omega, by go_num, by rw [HF.out], HBE, HPUT⟩
              case measure => simp [intOf]; omega
        · have b2 : decide (X ≤ b) = false := decide_eq_false h2
          rw [if_neg (fun h => h2 h.2.1), Int.add_zero] at hfs
          have HF := Lib.hid hfs; clear hfs h1 h2 hlook
          obtain ⟨w9, hrun, hput, hgrow⟩ := SeenM.put (mt := 72) (hseen.out) Try.underlying3 Try.underlying4 Try.underlying72 (HSL.out) HWF.out
          have hbe := pw_below_grown (hbw.out) _ (Nat.le_trans HSZ.out (Nat.le_of_lt (SeenM.lt (hseen.out)))) hgrow (fun k hk => by cases hk; exact HSZ.out)
          rw [HTK.out] at hput
          have HBE := Lib.hid hbe; have HPUT := Lib.hid hput; clear hput hbe hgrow
          go_wp2_with fail
          go_roundw
          case rel => exact ⟨j + 1, by omega, by go_num, by rw [HF.out], HBE, HPUT⟩
          case measure => simp [intOf]; omega
      · have b1 : decide (X ≥ a) = false := decide_eq_false h1
        rw [if_neg (fun h => h1 h.1), Int.add_zero] at hfs
        have HF := Lib.hid hfs; clear hfs h1 hlook
        obtain ⟨w9, hrun, hput, hgrow⟩ := SeenM.put (mt := 72) (hseen.out) Try.underlying3 Try.underlying4 Try.underlying72 (HSL.out) HWF.out
        have hbe := pw_below_grown (hbw.out) _ (Nat.le_trans HSZ.out (Nat.le_of_lt (SeenM.lt (hseen.out)))) hgrow (fun k hk => by cases hk; exact HSZ.out)
        rw [HTK.out] at hput
        have HBE := Lib.hid hbe; have HPUT := Lib.hid hput; clear hput hbe hgrow
        go_wp2_with fail
        go_roundw
        case rel => exact ⟨j + 1, by omega, by go_num, by rw [HF.out], HBE, HPUT⟩
        case measure => simp [intOf]; omega
    · obtain rfl : j = l.length := by omega
      have wj3 : decide ((l.length : Int) < (l.length : Int)) = false := decide_eq_false (by omega)
      go_wp2_with fail
      go_ret
      exact ⟨rfl, hbw.out⟩
set_option maxHeartbeats 4000000 in
set_option maxRecDepth 100000 in
theorem implWork_calls (a b : Int) (A2 : Option Addr) (c2 : Nat) (l : List Int) (w : World) (hr : Kd.C (Kd.int .i64) w A2 l.length l) (hc : l.length ≤ c2) (hw : ∀ x ∈ l, (Lit.int .i64 x).wf = true) :
    Calls Try.prog 9 #[.int .i64 a, .int .i64 b, .slice A2 l.length c2] w fun e w' => e = .returned (.int .i64 (implWorkV a b l)) ∧ Below w.heap.size w w' := by
  have hga := isDay_is a
  have hgb := isDay_is b
  cases ha : dayB a
  · rw [ha] at hga
    have e0 : implWorkV a b l = 0 := by unfold implWorkV; rw [ha]; rfl
    rw [e0]
    have HGA := Lib.hid hga; clear hga hgb ha e0 hr hc hw
    go_enter Try.func9, Try.ntmps9
    go_wp2_with fail
    refine (impl_isDay.calls _ _ _ HGA.out).mono ?_; rintro e w1 ⟨rfl, hd⟩; have HD := Lib.hid hd.below; clear hd
    go_wp2_with fail
    go_ret
    exact ⟨rfl, HD.out⟩
  cases hb : dayB b
  · rw [ha] at hga; rw [hb] at hgb
    have e0 : implWorkV a b l = 0 := by unfold implWorkV; rw [ha, hb]; rfl
    rw [e0]
    have HGA := Lib.hid hga; have HGB := Lib.hid hgb; clear hga hgb ha hb e0 hr hc hw
    go_enter Try.func9, Try.ntmps9
    go_wp2_with fail
    refine (impl_isDay.calls _ _ _ HGA.out).mono ?_; rintro e w1 ⟨rfl, hd⟩; have HD := Lib.hid hd.below; clear hd
    go_wp2_with fail
    refine (impl_isDay.calls _ _ _ HGB.out).mono ?_; rintro e w2 ⟨rfl, hd⟩; have HD2 := Lib.hid (below_step HD.out hd.below); clear hd
    go_wp2_with fail
    go_ret
    exact ⟨rfl, HD2.out⟩
  by_cases hl : l.length ≤ 1000
  · by_cases hab : b < a
    · have hup := fun w' => implWork_up b a A2 c2 l w'
      have ha' := dayB_iff.1 ha
      have hb' := dayB_iff.1 hb
      have hcw := coreW_le b a l (by omega) (by omega) hl
      have e0 : implWorkV a b l = -(coreW b a l) := by unfold implWorkV; rw [ha, hb, decide_eq_true hl, if_pos hab]; rfl
      rw [e0]
      have blen : decide ((l.length : Int) > 1000) = false := decide_eq_false (by omega)
      have bba : decide (b < a) = true := decide_eq_true hab
      have wn : IntKind.i64.wrap (-(coreW b a l)) = -(coreW b a l) := IntWalk.i64_in _ (by omega)
      rw [ha] at hga; rw [hb] at hgb
      have hcall := fun q : Nat => implWork_up b a A2 c2 l (w.drewN q) hr hc hw hl hb ha (by omega)
      have HGA := Lib.hid hga; have HGB := Lib.hid hgb; have HC := Lib.hid hcall; clear hga hgb ha hb ha' hb' e0 hr hc hw hup hcw hl hab hcall
      generalize coreW b a l = C at *
      go_enter Try.func9, Try.ntmps9
      go_wp2_with fail
      refine (impl_isDay.calls _ _ _ HGA.out).mono ?_; rintro e w1 ⟨rfl, hd⟩; obtain ⟨q1, rfl⟩ := hd.out; clear hd
      go_wp2_with fail
      refine (impl_isDay.calls _ _ _ HGB.out).mono ?_; rintro e w2 ⟨rfl, hd⟩; obtain ⟨q2, rfl⟩ := hd.out; clear hd
      go_wp2_with fail
      refine (HC.out _).mono ?_; rintro e w3 ⟨rfl, hd⟩; have HD := Lib.hid (below_step (pw_below_drewN (Below.refl w.heap.size w) (q1 + q2)) hd); clear hd
      go_wp2_with fail
      go_ret
      exact ⟨rfl, HD.out⟩
    · have e0 : implWorkV a b l = coreW a b l := by unfold implWorkV; rw [ha, hb, decide_eq_true hl, if_neg hab]; rfl
      rw [e0]
      exact implWork_up a b A2 c2 l w hr hc hw hl ha hb (by omega)
  · rw [ha] at hga; rw [hb] at hgb
    have e0 : implWorkV a b l = 0 := by unfold implWorkV; rw [ha, hb, decide_eq_false hl]; rfl
    rw [e0]
    have blen : decide ((l.length : Int) > 1000) = true := decide_eq_true (by omega)
    have HGA := Lib.hid hga; have HGB := Lib.hid hgb; clear hga hgb ha hb e0 hr hc hw hl
    go_enter Try.func9, Try.ntmps9
    go_wp2_with fail
    refine (impl_isDay.calls _ _ _ HGA.out).mono ?_; rintro e w1 ⟨rfl, hd⟩; have HD := Lib.hid hd.below; clear hd
    go_wp2_with fail
    refine (impl_isDay.calls _ _ _ HGB.out).mono ?_; rintro e w2 ⟨rfl, hd⟩; have HD2 := Lib.hid (below_step HD.out hd.below); clear hd
    go_wp2_with fail
    go_ret
    exact ⟨rfl, HD2.out⟩
def impl_Workdays.f (_k : Nat) (a0 : Int) (a1 : Int) (l2 : List Int) : Option Int := if ∀ x ∈ l2, (Lit.int .i64 x).wf = true then some (implWorkV a0 a1 l2) else none
theorem impl_Workdays.mono : ∀ a0 a1 a2 k, LeO (impl_Workdays.f k a0 a1 a2) (impl_Workdays.f (k + 1) a0 a1 a2) := fun _ _ _ _ => LeO.refl _
theorem impl_Workdays.calls (k : Nat) (a0 : Int) (a1 : Int) (A2 : Option Addr) (c2 : Nat) (l2 : List Int) (r : Int) (w : World) (hr2 : Kd.C (Kd.int .i64) w A2 l2.length l2) (hc2 : l2.length ≤ c2) (h : impl_Workdays.f k a0 a1 l2 = some r) :
    Calls Try.prog 9 #[.int .i64 a0, .int .i64 a1, .slice A2 l2.length c2] w fun e w' => e = .returned (.int .i64 r) ∧ Below w.heap.size w w' := by
  unfold impl_Workdays.f at h
  by_cases hw : ∀ x ∈ l2, (Lit.int .i64 x).wf = true
  · rw [if_pos hw] at h
    obtain rfl := Option.some.inj h
    exact implWork_calls a0 a1 A2 c2 l2 w hr2 hc2 hw
  · rw [if_neg hw] at h; cases h

/-! ### spec_l2Day: function 43 -/
def spec_l2Day.f (a0 : Int) : Option (Bool) := if a0 ≥ (-1000000) then (some (decide (a0 ≤ 1000000))) else (some false)
set_option maxHeartbeats 8000000 in
set_option maxRecDepth 100000 in
theorem spec_l2Day.calls (a0 : Int) (r : Bool) (w : World) (h : spec_l2Day.f a0 = some r) :
    Calls Try.prog 43 #[.int .i64 a0] w fun e w' => e = .returned (.bool r) ∧ Drawn0 w w' := by
  have H : (if a0 ≥ (-1000000) then (some (decide (a0 ≤ 1000000))) else (some false)) = some r := h
  clear h
  by_cases c2 : a0 ≥ (-1000000)
  · rw [if_pos c2] at H
    have c2b0 : decide ((-1000000) ≤ a0) = true := decide_eq_true c2
    clear c2
    obtain rfl := Option.some.inj H
    go_enter Try.func43, Try.ntmps43
    go_wp2
    go_ret
    exact ⟨by first | rfl | (simp; done) | (simp [*]; done), by repeat (first | exact Drawn0.refl _ | apply Drawn0.step)⟩
  · rw [if_neg c2] at H
    have c2b0 : decide ((-1000000) ≤ a0) = false := decide_eq_false c2
    clear c2
    obtain rfl := Option.some.inj H
    go_enter Try.func43, Try.ntmps43
    go_wp2
    go_ret
    exact ⟨by first | rfl | (simp; done) | (simp [*]; done), by repeat (first | exact Drawn0.refl _ | apply Drawn0.step)⟩

/-! ### spec_l2Floor: function 77 -/
def spec_l2Floor.f (a0 : Int) (a1 : Int) : Option (Int) := if a1 = 0 then (none) else (if (Int.tmod a0 a1) = 0 then (some (wrap64 (Int.tdiv a0 a1))) else (if ((decide (a0 < 0)) != (decide (a1 < 0))) = true then (some (wrap64 ((wrap64 (Int.tdiv a0 a1)) - 1))) else (some (wrap64 (Int.tdiv a0 a1)))))
set_option maxHeartbeats 8000000 in
set_option maxRecDepth 100000 in
theorem spec_l2Floor.calls (a0 : Int) (a1 : Int) (r : Int) (w : World) (h : spec_l2Floor.f a0 a1 = some r) :
    Calls Try.prog 77 #[.int .i64 a0, .int .i64 a1] w fun e w' => e = .returned (.int .i64 r) ∧ Drawn0 w w' := by
  have H : (if a1 = 0 then (none) else (if (Int.tmod a0 a1) = 0 then (some (wrap64 (Int.tdiv a0 a1))) else (if ((decide (a0 < 0)) != (decide (a1 < 0))) = true then (some (wrap64 ((wrap64 (Int.tdiv a0 a1)) - 1))) else (some (wrap64 (Int.tdiv a0 a1)))))) = some r := h
  clear h
  by_cases c3 : a1 = 0
  · rw [if_pos c3] at H
    exact absurd H (by simp)
  · rw [if_neg c3] at H
    have c3b0 : (a1 == 0) = false := beq_eq_false_iff_ne.mpr c3
    have c3b1 : (a1 != 0) = true := bne_iff_ne.mpr c3
    by_cases c4 : (Int.tmod a0 a1) = 0
    · rw [if_pos c4] at H
      have c4b0 : ((Int.tmod a0 a1) == 0) = true := beq_iff_eq.mpr c4
      have c4b1 : ((Int.tmod a0 a1) != 0) = false := bne_eq_false_iff_eq.mpr c4
      clear c4
      obtain rfl := Option.some.inj H
      go_enter Try.func77, Try.ntmps77
      go_wp2
      go_ret
      exact ⟨by first | rfl | (simp; done) | (simp [*]; done), by repeat (first | exact Drawn0.refl _ | apply Drawn0.step)⟩
    · rw [if_neg c4] at H
      have c4b0 : ((Int.tmod a0 a1) == 0) = false := beq_eq_false_iff_ne.mpr c4
      have c4b1 : ((Int.tmod a0 a1) != 0) = true := bne_iff_ne.mpr c4
      by_cases c5 : ((decide (a0 < 0)) != (decide (a1 < 0))) = true
      · rw [if_pos c5] at H
        have c5b0 : ((decide (a0 < 0)) != (decide (a1 < 0))) = true := c5
        (try (have c5b1 : decide ((decide (a0 < 0)) = (decide (a1 < 0))) = false := by simpa using c5))
        (try (have c5b2 : ((decide (a0 < 0)) == (decide (a1 < 0))) = false := by simpa using c5))
        (try (have c5b3 : ¬ ((decide (a0 < 0)) = (decide (a1 < 0))) := by simpa using c5))
        clear c5
        obtain rfl := Option.some.inj H
        go_enter Try.func77, Try.ntmps77
        go_wp2
        go_ret
        exact ⟨by first | rfl | (simp; done) | (simp [*]; done), by repeat (first | exact Drawn0.refl _ | apply Drawn0.step)⟩
      · rw [if_neg c5] at H
        have c5b0 : ((decide (a0 < 0)) != (decide (a1 < 0))) = false := by simpa using c5
        (try (have c5b1 : decide ((decide (a0 < 0)) = (decide (a1 < 0))) = true := by simpa using c5))
        (try (have c5b2 : ((decide (a0 < 0)) == (decide (a1 < 0))) = true := by simpa using c5))
        clear c5
        obtain rfl := Option.some.inj H
        go_enter Try.func77, Try.ntmps77
        go_wp2
        go_ret
        exact ⟨by first | rfl | (simp; done) | (simp [*]; done), by repeat (first | exact Drawn0.refl _ | apply Drawn0.step)⟩

/-! ### spec_l2Mod: function 44 -/
def spec_l2Mod.f (a0 : Int) (a1 : Int) : Option (Int) := (spec_l2Floor.f a0 a1).bind fun t170 => (some (wrap64 (a0 - (wrap64 (a1 * t170)))))
set_option maxHeartbeats 8000000 in
set_option maxRecDepth 100000 in
theorem spec_l2Mod.calls (a0 : Int) (a1 : Int) (r : Int) (w : World) (h : spec_l2Mod.f a0 a1 = some r) :
    Calls Try.prog 44 #[.int .i64 a0, .int .i64 a1] w fun e w' => e = .returned (.int .i64 r) ∧ Drawn0 w w' := by
  have H : ((spec_l2Floor.f a0 a1).bind fun t170 => (some (wrap64 (a0 - (wrap64 (a1 * t170)))))) = some r := h
  clear h
  replace H := Option.bind_eq_some_iff.mp H
  obtain ⟨t170, A30, H⟩ := H
  replace H : (some (wrap64 (a0 - (wrap64 (a1 * t170))))) = some r := H
  have A3 := Aside0.mk A30
  clear A30
  obtain rfl := Option.some.inj H
  go_enter Try.func44, Try.ntmps44
  go_wp2_with (first | ((with_reducible refine gate_callee (f := 77) rfl ?_); refine goesL_ (some 9) rfl rfl Try.func77 (by kernel_rfl) rfl #[.int .i64 a0, .int .i64 a1] rfl (by (try simp only [List.map_toArray, List.map_cons, List.map_nil]); first | done | rfl | (simp only [List.length_drop, List.length_take]; rfl)) ?_; (with_reducible refine (spec_l2Floor.calls a0 a1 t170 _ A3.out).mono ?_); rintro e w' ⟨rfl, ⟨nd, rfl⟩⟩; refine ⟨_, rfl, ?_⟩))
  go_ret
  exact ⟨by first | rfl | (simp; done) | (simp [*]; done), by repeat (first | exact Drawn0.refl _ | apply Drawn0.step)⟩

/-! ### spec_Workdays: function 10 -/

theorem specDay_is (d : Int) : spec_l2Day.f d = some (dayB d) := by
  unfold spec_l2Day.f dayB
  by_cases h : d ≥ -1000000
  · rw [if_pos h]; congr 1; rw [decide_eq_decide]; omega
  · rw [if_neg h]; congr 1; symm; rw [decide_eq_false_iff_not]; omega
theorem specMod_is (a b : Int) (hb : 0 < b) (hb2 : b ≤ 1000) (h1 : -1000000000 ≤ a) (h2 : a ≤ 1000000000) : spec_l2Mod.f a b = some (a % b) := by
  unfold spec_l2Mod.f spec_l2Floor.f
  rw [floor_is hb (by omega) (by omega)]
  simp only [Option.bind_some]
  have e := Int.mul_ediv_add_emod a b
  have h0 := Int.emod_nonneg a (by omega : b ≠ 0)
  have h1 := Int.emod_lt_of_pos a hb
  rw [wrap_id (x := b * (a / b)) (by omega) (by omega), wrap_id (by omega) (by omega)]
  congr 1; omega
set_option maxHeartbeats 8000000 in
set_option maxRecDepth 100000 in
theorem specWork_up (a b : Int) (A2 : Option Addr) (c2 : Nat) (l : List Int) (w : World) (hr : Kd.C (Kd.int .i64) w A2 l.length l) (hc : l.length ≤ c2)
    (hl : l.length ≤ 1000) (ha : dayB a = true) (hb : dayB b = true) (hab : a ≤ b) :
    Calls Try.prog 10 #[.int .i64 a, .int .i64 b, .slice A2 l.length c2] w fun e w' => e = .returned (.int .i64 (coreW a b l)) ∧ Drawn0 w w' := by
  have ha' := dayB_iff.1 ha
  have hb' := dayB_iff.1 hb
  have hga := specDay_is a
  have hgb := specDay_is b
  rw [ha] at hga; rw [hb] at hgb
  have hcw := coreW_le a b l (by omega) (by omega) hl
  have blen : decide ((l.length : Int) > 1000) = false := decide_eq_false (by omega)
  have bba : decide (b < a) = false := decide_eq_false (by omega)
  have hcell := fun (j : Nat) (hj : j < l.length) => Kd.at_int hr (j : Int) (by omega) (by omega)
  have e1 : IntKind.i64.wrap (b - a) = b - a := IntWalk.i64_in _ (by omega)
  have e2 : IntKind.i64.wrap (b - a + 1) = b - a + 1 := IntWalk.i64_in _ (by omega)
  obtain ⟨K, hK⟩ : ∃ K, K = (b - a + 1) / 7 := ⟨_, rfl⟩
  have e3 : IntKind.i64.wrap ((b - a + 1).tdiv 7) = K := by rw [td_pos (by omega), ← hK]; exact IntWalk.i64_in _ (by omega)
  have e4 : IntKind.i64.wrap (5 * K) = 5 * K := IntWalk.i64_in _ (by omega)
  have e5 : IntKind.i64.wrap (7 * K) = 7 * K := IntWalk.i64_in _ (by omega)
  have e6 : IntKind.i64.wrap (a + 7 * K) = a + 7 * K := IntWalk.i64_in _ (by omega)
  have hwk := wuV_weeks a K
  have l1 := wuV_le a (by omega)
  have l2 := wuV_le (b + 1) (by omega)
  have emul : wrap64 (coreW a b l) = coreW a b l := wrap_id (by omega) (by omega)
  have EM := Lib.hid emul; clear emul
  have HGA := Lib.hid hga; have HGB := Lib.hid hgb; have HCL := Lib.hid hcell; have HA := Lib.hid ha'; have HB2 := Lib.hid hb'; have HL := Lib.hid hl; have HC := Lib.hid hc; have L1 := Lib.hid l1; have L2 := Lib.hid l2; have HWKS := Lib.hid hwk; have HK := Lib.hid hK; have HAB := Lib.hid hab
  clear hga hgb hcell ha hb ha' hb' hl hr hc l1 l2 hab hcw hwk hK
  go_enter Try.func10, Try.ntmps10
  go_wp2_with fail
  refine (spec_l2Day.calls _ _ _ HGA.out).mono ?_; rintro e w1 ⟨rfl, hd⟩; obtain ⟨q1, rfl⟩ := hd.out; clear hd
  go_wp2_with fail
  refine (spec_l2Day.calls _ _ _ HGB.out).mono ?_; rintro e w1 ⟨rfl, hd⟩; obtain ⟨q2, rfl⟩ := hd.out; clear hd
  go_wp2_with fail
  go_loopw [11, 10] (fun i n w' => ∃ (d : Int) (q : Nat), a ≤ d ∧ d ≤ b + 1 ∧ i = .int .i64 d ∧ n = .int .i64 (wuV d - wuV a) ∧ w' = w.drewN q) (fun i _ _ => (b + 1 - intOf i).toNat)
  case atStart => exact ⟨a + 7 * K, q1 + q2, by have := HK.out; have := HAB.out; omega, by have := HK.out; have := HAB.out; omega, rfl, by rw [HWKS.out]; congr 1; omega, by simp⟩
  case round =>
    obtain ⟨d, q, hd1, hd2, rfl, rfl, rfl⟩ := hrel
    by_cases hlt : d ≤ b
    · have g1 : decide (d ≤ b) = true := decide_eq_true hlt
      have g2 : IntKind.i64.wrap (d + 5) = d + 5 := IntWalk.i64_in _ (by have := HA.out; have := HB2.out; omega)
      have g3 : IntKind.i64.wrap (d + 1) = d + 1 := IntWalk.i64_in _ (by have := HA.out; have := HB2.out; omega)
      have hm := specMod_is (d + 5) 7 (by omega) (by omega) (by have := HA.out; have := HB2.out; omega) (by have := HA.out; have := HB2.out; omega)
      have hs := wuV_step d
      have hld := wuV_le d (by have := HA.out; have := HB2.out; omega)
      have HM := Lib.hid hm; have HD1 := Lib.hid hd1; have HLT := Lib.hid hlt; have HLD := Lib.hid hld; clear hm hd1 hd2 hlt hld
      by_cases h4 : (d + 5) % 7 < 5
      · have b4 : decide ((d + 5) % 7 < 5) = true := decide_eq_true h4
        rw [if_pos h4] at hs
        have g4 : IntKind.i64.wrap (wuV d - wuV a + 1) = wuV (d + 1) - wuV a := by rw [IntWalk.i64_in _ (by have := HLD.out; have := L1.out; omega), hs]; omega
        have HS := Lib.hid hs; clear hs h4
        go_wp2_with fail
        refine (spec_l2Mod.calls _ _ _ _ HM.out).mono ?_; rintro e w2 ⟨rfl, hd⟩; obtain ⟨q3, rfl⟩ := hd.out; clear hd
        go_wp2_with fail
        go_roundw
        case rel => exact ⟨d + 1, q + q3, by have := HD1.out; omega, by have := HLT.out; omega, rfl, rfl, by simp⟩
        case measure => simp [intOf]; have := HLT.out; omega
      · have b4 : decide ((d + 5) % 7 < 5) = false := decide_eq_false h4
        rw [if_neg h4, Int.add_zero] at hs
        have HS := Lib.hid hs; clear hs h4
        go_wp2_with fail
        refine (spec_l2Mod.calls _ _ _ _ HM.out).mono ?_; rintro e w2 ⟨rfl, hd⟩; obtain ⟨q3, rfl⟩ := hd.out; clear hd
        go_wp2_with fail
        go_roundw
        case rel => exact ⟨d + 1, q + q3, by have := HD1.out; omega, by have := HLT.out; omega, rfl, by rw [HS.out], by simp⟩
        case measure => simp [intOf]; have := HLT.out; omega
    · obtain rfl : d = b + 1 := by omega
      have g1 : decide (b + 1 ≤ b) = false := decide_eq_false (by omega)
      clear hd1 hd2 hlt
      go_wp2_with fail
      go_loopw [60, 10] (fun i n w' => ∃ (j q : Nat), j ≤ l.length ∧ i = .int .i64 j ∧ n = .int .i64 (wuV (b + 1) - wuV a - freeN a b l j) ∧ w' = w.drewN q) (fun i _ _ => l.length - (intOf i).toNat)
      case atStart => exact ⟨0, q, Nat.zero_le _, rfl, by simp [freeN], rfl⟩
      case round =>
        obtain ⟨j, q, hj, rfl, rfl, rfl⟩ := hrel
        by_cases hlt : j < l.length
        · obtain ⟨ad, e, hcell⟩ := HCL.out j hlt
          cases e
          rw [Int.toNat_natCast] at hcell
          have hfl := freeN_le a b l j
          have hfs : freeN a b l (j + 1) = freeN a b l j + (if a ≤ rd l j ∧ rd l j ≤ b ∧ rd l j ∉ l.take j ∧ (rd l j + 5) % 7 < 5 then 1 else 0) := rfl
          have wj0 : (0 : Int) ≤ (j : Int) := Int.natCast_nonneg _
          have wj1 : (j : Int) < (l.length : Int) := by omega
          have wj2 : IntKind.i64.wrap ((j : Int) + 1) = (j : Int) + 1 := IntWalk.i64_in _ (by have := HL.out; omega)
          have wj3 : decide ((j : Int) < (l.length : Int)) = true := decide_eq_true wj1
          have wj4 : (j : Int) ≤ (c2 : Int) := by have := HC.out; omega
          have wj5 : (j : Int).toNat = j := Int.toNat_natCast _
          generalize hX : rd l (j : Int) = X at *
          have HFL := Lib.hid hfl; have HXX := Lib.hid hX; have HLT := Lib.hid hlt
          have HFS := Lib.hid hfs
          clear hfl hX hfs hlt hj
          go_wp2_with fail
          go_loopw [69, 14] (fun i n w' => ∃ (m q9 : Nat), m ≤ j ∧ i = .int .i64 m ∧ n = .bool (decide (X ∈ l.take m)) ∧ w' = w.drewN q9) (fun i _ _ => j - (intOf i).toNat)
          case atStart => exact ⟨0, q, Nat.zero_le _, rfl, by simp, rfl⟩
          case round =>
            obtain ⟨m, q9, hm, rfl, rfl, rfl⟩ := hrel
            by_cases hmlt : m < j
            · obtain ⟨ad2, e, hcell2⟩ := HCL.out m (by have := HLT.out; omega)
              cases e
              rw [Int.toNat_natCast] at hcell2
              have htk := take_rd l m (by have := HLT.out; omega)
              have v0 : (0 : Int) ≤ (m : Int) := Int.natCast_nonneg _
              have v1 : (m : Int) < (j : Int) := by omega
              have v2 : IntKind.i64.wrap ((m : Int) + 1) = (m : Int) + 1 := IntWalk.i64_in _ (by have := HL.out; have := HLT.out; omega)
              have v3 : decide ((m : Int) < (j : Int)) = true := decide_eq_true v1
              generalize hY : rd l (m : Int) = Y at *
              have HTK := Lib.hid htk; have HMLT := Lib.hid hmlt; clear htk hY hmlt hm
              by_cases hin : X ∈ l.take m
              · have i1 : decide (X ∈ l.take m) = true := decide_eq_true hin
                have i2 : decide (X ∈ l.take (m + 1)) = true := decide_eq_true (by rw [HTK.out]; simp [hin])
                rw [i1]
                have I2 := Lib.hid i2; clear hin i1 i2
                go_wp2_with fail
                go_roundw
                case rel => exact ⟨m + 1, q9, by have := HMLT.out; omega, rfl, by rw [I2.out], rfl⟩
                case measure => simp [intOf]; have := HMLT.out; omega
              · have i1 : decide (X ∈ l.take m) = false := decide_eq_false hin
                have i2 : decide (X ∈ l.take (m + 1)) = (Y == X) := by
                  rw [HTK.out]
                  by_cases e : Y = X
                  · subst e; simp
                  · rw [beq_eq_false_iff_ne.2 e]; simp [hin]; exact fun h => e h.symm
                rw [i1]
                have I2 := Lib.hid i2; clear hin i1 i2
                go_wp2_with fail
                go_roundw
                case rel => exact ⟨m + 1, q9, by have := HMLT.out; omega, rfl, by rw [I2.out], rfl⟩
                case measure => simp [intOf]; have := HMLT.out; omega
            · obtain rfl : m = j := by omega
              have v3 : decide ((m : Int) < (m : Int)) = false := decide_eq_false (by omega)
              clear hmlt hm
              by_cases h3 : X ∈ l.take m
              · have b3 : decide (X ∈ l.take m) = true := decide_eq_true h3
                have hfs := HFS.out
                rw [if_neg (fun h => h.2.2.1 h3), Int.add_zero] at hfs
                rw [b3]
                have HF := Lib.hid hfs; clear hfs b3 h3
                go_wp2_with fail
                go_roundw
                case rel => exact ⟨m + 1, q9, by have := HLT.out; omega, rfl, by rw [HF.out], rfl⟩
                case measure => simp [intOf]; have := HLT.out; omega
              · have b3 : decide (X ∈ l.take m) = false := decide_eq_false h3
                rw [b3]
                by_cases h1 : X ≥ a
                · have b1 : decide (X ≥ a) = true := decide_eq_true h1
                  by_cases h2 : X ≤ b
                  · have b2 : decide (X ≤ b) = true := decide_eq_true h2
                    have hmx := specMod_is (X + 5) 7 (by omega) (by omega) (by have := HA.out; have := HB2.out; omega) (by have := HA.out; have := HB2.out; omega)
                    have g2 : IntKind.i64.wrap (X + 5) = X + 5 := IntWalk.i64_in _ (by have := HA.out; have := HB2.out; omega)
                    have HMX := Lib.hid hmx; clear hmx
                    have hfs := HFS.out
                    by_cases h4 : (X + 5) % 7 < 5
                    · have b4 : decide ((X + 5) % 7 < 5) = true := decide_eq_true h4
                      rw [if_pos ⟨h1, h2, h3, h4⟩] at hfs
                      have wn : IntKind.i64.wrap (wuV (b + 1) - wuV a - freeN a b l m - 1) = wuV (b + 1) - wuV a - freeN a b l (m + 1) := by rw [IntWalk.i64_in _ (by have := HL.out; have := HFL.out; have := L1.out; have := L2.out; have := HLT.out; omega), hfs]; omega
                      clear hfs b3 h1 h2 h3 h4
                      go_wp2_with fail
                      refine (spec_l2Mod.calls _ _ _ _ HMX.out).mono ?_; rintro e w8 ⟨rfl, hd⟩; obtain ⟨q8, rfl⟩ := hd.out; clear hd
                      go_wp2_with fail
                      go_roundw
                      case rel => exact ⟨m + 1, q9 + q8, by have := HLT.out; omega, rfl, rfl, by simp⟩
                      case measure => simp [intOf]; have := HLT.out; omega
                    · have b4 : decide ((X + 5) % 7 < 5) = false := decide_eq_false h4
                      rw [if_neg (fun h => h4 h.2.2.2), Int.add_zero] at hfs
                      have HF := Lib.hid hfs; clear hfs b3 h1 h2 h3 h4
                      go_wp2_with fail
                      refine (spec_l2Mod.calls _ _ _ _ HMX.out).mono ?_; rintro e w8 ⟨rfl, hd⟩; obtain ⟨q8, rfl⟩ := hd.out; clear hd
                      go_wp2_with fail
                      go_roundw
                      case rel => exact ⟨m + 1, q9 + q8, by have := HLT.out; omega, rfl, by rw [HF.out], by simp⟩
                      case measure => simp [intOf]; have := HLT.out; omega
                  · have b2 : decide (X ≤ b) = false := decide_eq_false h2
                    have hfs := HFS.out
                    rw [if_neg (fun h => h2 h.2.1), Int.add_zero] at hfs
                    have HF := Lib.hid hfs; clear hfs h1 h2 h3 b3
                    go_wp2_with fail
                    go_roundw
                    case rel => exact ⟨m + 1, q9, by have := HLT.out; omega, rfl, by rw [HF.out], rfl⟩
                    case measure => simp [intOf]; have := HLT.out; omega
                · have b1 : decide (X ≥ a) = false := decide_eq_false h1
                  have hfs := HFS.out
                  rw [if_neg (fun h => h1 h.1), Int.add_zero] at hfs
                  have HF := Lib.hid hfs; clear hfs h1 h3 b3
                  go_wp2_with fail
                  go_roundw
                  case rel => exact ⟨m + 1, q9, by have := HLT.out; omega, rfl, by rw [HF.out], rfl⟩
                  case measure => simp [intOf]; have := HLT.out; omega
        · obtain rfl : j = l.length := by omega
          have wj3 : decide ((l.length : Int) < (l.length : Int)) = false := decide_eq_false (by omega)
          have ecw : wuV (b + 1) - wuV a - freeN a b l l.length = coreW a b l := rfl
          clear hlt hj
          rw [ecw]
          go_wp2_with fail
          go_ret
          refine ⟨?_, ⟨⟨_, rfl⟩⟩⟩
          show Ending.returned (.int .i64 (wrap64 (coreW a b l))) = _
          rw [EM.out]
set_option maxHeartbeats 8000000 in
set_option maxRecDepth 100000 in
theorem specWork_down (a b : Int) (A2 : Option Addr) (c2 : Nat) (l : List Int) (w : World) (hr : Kd.C (Kd.int .i64) w A2 l.length l) (hc : l.length ≤ c2)
    (hl : l.length ≤ 1000) (ha : dayB a = true) (hb : dayB b = true) (hab : b < a) :
    Calls Try.prog 10 #[.int .i64 a, .int .i64 b, .slice A2 l.length c2] w fun e w' => e = .returned (.int .i64 (-(coreW b a l))) ∧ Drawn0 w w' := by
  have ha' := dayB_iff.1 ha
  have hb' := dayB_iff.1 hb
  have hga := specDay_is a
  have hgb := specDay_is b
  rw [ha] at hga; rw [hb] at hgb
  have hcw := coreW_le b a l (by omega) (by omega) hl
  have blen : decide ((l.length : Int) > 1000) = false := decide_eq_false (by omega)
  have bba : decide (b < a) = true := decide_eq_true hab
  have hcell := fun (j : Nat) (hj : j < l.length) => Kd.at_int hr (j : Int) (by omega) (by omega)
  have e1 : IntKind.i64.wrap (a - b) = a - b := IntWalk.i64_in _ (by omega)
  have e2 : IntKind.i64.wrap (a - b + 1) = a - b + 1 := IntWalk.i64_in _ (by omega)
  obtain ⟨K, hK⟩ : ∃ K, K = (a - b + 1) / 7 := ⟨_, rfl⟩
  have e3 : IntKind.i64.wrap ((a - b + 1).tdiv 7) = K := by rw [td_pos (by omega), ← hK]; exact IntWalk.i64_in _ (by omega)
  have e4 : IntKind.i64.wrap (5 * K) = 5 * K := IntWalk.i64_in _ (by omega)
  have e5 : IntKind.i64.wrap (7 * K) = 7 * K := IntWalk.i64_in _ (by omega)
  have e6 : IntKind.i64.wrap (b + 7 * K) = b + 7 * K := IntWalk.i64_in _ (by omega)
  have hwk := wuV_weeks b K
  have l1 := wuV_le b (by omega)
  have l2 := wuV_le (a + 1) (by omega)
  have emul : wrap64 (-(coreW b a l)) = -(coreW b a l) := wrap_id (by omega) (by omega)
  have EM := Lib.hid emul; clear emul
  have HGA := Lib.hid hga; have HGB := Lib.hid hgb; have HCL := Lib.hid hcell; have HA := Lib.hid ha'; have HB2 := Lib.hid hb'; have HL := Lib.hid hl; have HC := Lib.hid hc; have L1 := Lib.hid l1; have L2 := Lib.hid l2; have HWKS := Lib.hid hwk; have HK := Lib.hid hK; have HAB := Lib.hid hab
  clear hga hgb hcell ha hb ha' hb' hl hr hc l1 l2 hab hcw hwk hK
  go_enter Try.func10, Try.ntmps10
  go_wp2_with fail
  refine (spec_l2Day.calls _ _ _ HGA.out).mono ?_; rintro e w1 ⟨rfl, hd⟩; obtain ⟨q1, rfl⟩ := hd.out; clear hd
  go_wp2_with fail
  refine (spec_l2Day.calls _ _ _ HGB.out).mono ?_; rintro e w1 ⟨rfl, hd⟩; obtain ⟨q2, rfl⟩ := hd.out; clear hd
  go_wp2_with fail
  go_loopw [11, 10] (fun i n w' => ∃ (d : Int) (q : Nat), b ≤ d ∧ d ≤ a + 1 ∧ i = .int .i64 d ∧ n = .int .i64 (wuV d - wuV b) ∧ w' = w.drewN q) (fun i _ _ => (a + 1 - intOf i).toNat)
  case atStart => exact ⟨b + 7 * K, q1 + q2, by have := HK.out; have := HAB.out; omega, by have := HK.out; have := HAB.out; omega, rfl, by rw [HWKS.out]; congr 1; omega, by simp⟩
  case round =>
    obtain ⟨d, q, hd1, hd2, rfl, rfl, rfl⟩ := hrel
    by_cases hlt : d ≤ a
    · have g1 : decide (d ≤ a) = true := decide_eq_true hlt
      have g2 : IntKind.i64.wrap (d + 5) = d + 5 := IntWalk.i64_in _ (by have := HA.out; have := HB2.out; omega)
      have g3 : IntKind.i64.wrap (d + 1) = d + 1 := IntWalk.i64_in _ (by have := HA.out; have := HB2.out; omega)
      have hm := specMod_is (d + 5) 7 (by omega) (by omega) (by have := HA.out; have := HB2.out; omega) (by have := HA.out; have := HB2.out; omega)
      have hs := wuV_step d
      have hld := wuV_le d (by have := HA.out; have := HB2.out; omega)
      have HM := Lib.hid hm; have HD1 := Lib.hid hd1; have HLT := Lib.hid hlt; have HLD := Lib.hid hld; clear hm hd1 hd2 hlt hld
      by_cases h4 : (d + 5) % 7 < 5
      · have b4 : decide ((d + 5) % 7 < 5) = true := decide_eq_true h4
        rw [if_pos h4] at hs
        have g4 : IntKind.i64.wrap (wuV d - wuV b + 1) = wuV (d + 1) - wuV b := by rw [IntWalk.i64_in _ (by have := HLD.out; have := L1.out; omega), hs]; omega
        have HS := Lib.hid hs; clear hs h4
        go_wp2_with fail
        refine (spec_l2Mod.calls _ _ _ _ HM.out).mono ?_; rintro e w2 ⟨rfl, hd⟩; obtain ⟨q3, rfl⟩ := hd.out; clear hd
        go_wp2_with fail
        go_roundw
        case rel => exact ⟨d + 1, q + q3, by have := HD1.out; omega, by have := HLT.out; omega, rfl, rfl, by simp⟩
        case measure => simp [intOf]; have := HLT.out; omega
      · have b4 : decide ((d + 5) % 7 < 5) = false := decide_eq_false h4
        rw [if_neg h4, Int.add_zero] at hs
        have HS := Lib.hid hs; clear hs h4
        go_wp2_with fail
        refine (spec_l2Mod.calls _ _ _ _ HM.out).mono ?_; rintro e w2 ⟨rfl, hd⟩; obtain ⟨q3, rfl⟩ := hd.out; clear hd
        go_wp2_with fail
        go_roundw
        case rel => exact ⟨d + 1, q + q3, by have := HD1.out; omega, by have := HLT.out; omega, rfl, by rw [HS.out], by simp⟩
        case measure => simp [intOf]; have := HLT.out; omega
    · obtain rfl : d = a + 1 := by omega
      have g1 : decide (a + 1 ≤ a) = false := decide_eq_false (by omega)
      clear hd1 hd2 hlt
      go_wp2_with fail
      go_loopw [60, 10] (fun i n w' => ∃ (j q : Nat), j ≤ l.length ∧ i = .int .i64 j ∧ n = .int .i64 (wuV (a + 1) - wuV b - freeN b a l j) ∧ w' = w.drewN q) (fun i _ _ => l.length - (intOf i).toNat)
      case atStart => exact ⟨0, q, Nat.zero_le _, rfl, by simp [freeN], rfl⟩
      case round =>
        obtain ⟨j, q, hj, rfl, rfl, rfl⟩ := hrel
        by_cases hlt : j < l.length
        · obtain ⟨ad, e, hcell⟩ := HCL.out j hlt
          cases e
          rw [Int.toNat_natCast] at hcell
          have hfl := freeN_le b a l j
          have hfs : freeN b a l (j + 1) = freeN b a l j + (if b ≤ rd l j ∧ rd l j ≤ a ∧ rd l j ∉ l.take j ∧ (rd l j + 5) % 7 < 5 then 1 else 0) := rfl
          have wj0 : (0 : Int) ≤ (j : Int) := Int.natCast_nonneg _
          have wj1 : (j : Int) < (l.length : Int) := by omega
          have wj2 : IntKind.i64.wrap ((j : Int) + 1) = (j : Int) + 1 := IntWalk.i64_in _ (by have := HL.out; omega)
          have wj3 : decide ((j : Int) < (l.length : Int)) = true := decide_eq_true wj1
          have wj4 : (j : Int) ≤ (c2 : Int) := by have := HC.out; omega
          have wj5 : (j : Int).toNat = j := Int.toNat_natCast _
          generalize hX : rd l (j : Int) = X at *
          have HFL := Lib.hid hfl; have HXX := Lib.hid hX; have HLT := Lib.hid hlt
          have HFS := Lib.hid hfs
          clear hfl hX hfs hlt hj
          go_wp2_with fail
          go_loopw [69, 14] (fun i n w' => ∃ (m q9 : Nat), m ≤ j ∧ i = .int .i64 m ∧ n = .bool (decide (X ∈ l.take m)) ∧ w' = w.drewN q9) (fun i _ _ => j - (intOf i).toNat)
          case atStart => exact ⟨0, q, Nat.zero_le _, rfl, by simp, rfl⟩
          case round =>
            obtain ⟨m, q9, hm, rfl, rfl, rfl⟩ := hrel
            by_cases hmlt : m < j
            · obtain ⟨ad2, e, hcell2⟩ := HCL.out m (by have := HLT.out; omega)
              cases e
              rw [Int.toNat_natCast] at hcell2
              have htk := take_rd l m (by have := HLT.out; omega)
              have v0 : (0 : Int) ≤ (m : Int) := Int.natCast_nonneg _
              have v1 : (m : Int) < (j : Int) := by omega
              have v2 : IntKind.i64.wrap ((m : Int) + 1) = (m : Int) + 1 := IntWalk.i64_in _ (by have := HL.out; have := HLT.out; omega)
              have v3 : decide ((m : Int) < (j : Int)) = true := decide_eq_true v1
              generalize hY : rd l (m : Int) = Y at *
              have HTK := Lib.hid htk; have HMLT := Lib.hid hmlt; clear htk hY hmlt hm
              by_cases hin : X ∈ l.take m
              · have i1 : decide (X ∈ l.take m) = true := decide_eq_true hin
                have i2 : decide (X ∈ l.take (m + 1)) = true := decide_eq_true (by rw [HTK.out]; simp [hin])
                rw [i1]
                have I2 := Lib.hid i2; clear hin i1 i2
                go_wp2_with fail
                go_roundw
                case rel => exact ⟨m + 1, q9, by have := HMLT.out; omega, rfl, by rw [I2.out], rfl⟩
                case measure => simp [intOf]; have := HMLT.out; omega
              · have i1 : decide (X ∈ l.take m) = false := decide_eq_false hin
                have i2 : decide (X ∈ l.take (m + 1)) = (Y == X) := by
                  rw [HTK.out]
                  by_cases e : Y = X
                  · subst e; simp
                  · rw [beq_eq_false_iff_ne.2 e]; simp [hin]; exact fun h => e h.symm
                rw [i1]
                have I2 := Lib.hid i2; clear hin i1 i2
                go_wp2_with fail
                go_roundw
                case rel => exact ⟨m + 1, q9, by have := HMLT.out; omega, rfl, by rw [I2.out], rfl⟩
                case measure => simp [intOf]; have := HMLT.out; omega
            · obtain rfl : m = j := by omega
              have v3 : decide ((m : Int) < (m : Int)) = false := decide_eq_false (by omega)
              clear hmlt hm
              by_cases h3 : X ∈ l.take m
              · have b3 : decide (X ∈ l.take m) = true := decide_eq_true h3
                have hfs := HFS.out
                rw [if_neg (fun h => h.2.2.1 h3), Int.add_zero] at hfs
                rw [b3]
                have HF := Lib.hid hfs; clear hfs b3 h3
                go_wp2_with fail
                go_roundw
                case rel => exact ⟨m + 1, q9, by have := HLT.out; omega, rfl, by rw [HF.out], rfl⟩
                case measure => simp [intOf]; have := HLT.out; omega
              · have b3 : decide (X ∈ l.take m) = false := decide_eq_false h3
                rw [b3]
                by_cases h1 : X ≥ b
                · have b1 : decide (X ≥ b) = true := decide_eq_true h1
                  by_cases h2 : X ≤ a
                  · have b2 : decide (X ≤ a) = true := decide_eq_true h2
                    have hmx := specMod_is (X + 5) 7 (by omega) (by omega) (by have := HA.out; have := HB2.out; omega) (by have := HA.out; have := HB2.out; omega)
                    have g2 : IntKind.i64.wrap (X + 5) = X + 5 := IntWalk.i64_in _ (by have := HA.out; have := HB2.out; omega)
                    have HMX := Lib.hid hmx; clear hmx
                    have hfs := HFS.out
                    by_cases h4 : (X + 5) % 7 < 5
                    · have b4 : decide ((X + 5) % 7 < 5) = true := decide_eq_true h4
                      rw [if_pos ⟨h1, h2, h3, h4⟩] at hfs
                      have wn : IntKind.i64.wrap (wuV (a + 1) - wuV b - freeN b a l m - 1) = wuV (a + 1) - wuV b - freeN b a l (m + 1) := by rw [IntWalk.i64_in _ (by have := HL.out; have := HFL.out; have := L1.out; have := L2.out; have := HLT.out; omega), hfs]; omega
                      clear hfs b3 h1 h2 h3 h4
                      go_wp2_with fail
                      refine (spec_l2Mod.calls _ _ _ _ HMX.out).mono ?_; rintro e w8 ⟨rfl, hd⟩; obtain ⟨q8, rfl⟩ := hd.out; clear hd
                      go_wp2_with fail
                      go_roundw
                      case rel => exact ⟨m + 1, q9 + q8, by have := HLT.out; omega, rfl, rfl, by simp⟩
                      case measure => simp [intOf]; have := HLT.out; omega
                    · have b4 : decide ((X + 5) % 7 < 5) = false := decide_eq_false h4
                      rw [if_neg (fun h => h4 h.2.2.2), Int.add_zero] at hfs
                      have HF := Lib.hid hfs; clear hfs b3 h1 h2 h3 h4
                      go_wp2_with fail
                      refine (spec_l2Mod.calls _ _ _ _ HMX.out).mono ?_; rintro e w8 ⟨rfl, hd⟩; obtain ⟨q8, rfl⟩ := hd.out; clear hd
                      go_wp2_with fail
                      go_roundw
                      case rel => exact ⟨m + 1, q9 + q8, by have := HLT.out; omega, rfl, by rw [HF.out], by simp⟩
                      case measure => simp [intOf]; have := HLT.out; omega
                  · have b2 : decide (X ≤ a) = false := decide_eq_false h2
                    have hfs := HFS.out
                    rw [if_neg (fun h => h2 h.2.1), Int.add_zero] at hfs
                    have HF := Lib.hid hfs; clear hfs h1 h2 h3 b3
                    go_wp2_with fail
                    go_roundw
                    case rel => exact ⟨m + 1, q9, by have := HLT.out; omega, rfl, by rw [HF.out], rfl⟩
                    case measure => simp [intOf]; have := HLT.out; omega
                · have b1 : decide (X ≥ b) = false := decide_eq_false h1
                  have hfs := HFS.out
                  rw [if_neg (fun h => h1 h.1), Int.add_zero] at hfs
                  have HF := Lib.hid hfs; clear hfs h1 h3 b3
                  go_wp2_with fail
                  go_roundw
                  case rel => exact ⟨m + 1, q9, by have := HLT.out; omega, rfl, by rw [HF.out], rfl⟩
                  case measure => simp [intOf]; have := HLT.out; omega
        · obtain rfl : j = l.length := by omega
          have wj3 : decide ((l.length : Int) < (l.length : Int)) = false := decide_eq_false (by omega)
          have ecw : wuV (a + 1) - wuV b - freeN b a l l.length = coreW b a l := rfl
          clear hlt hj
          rw [ecw]
          go_wp2_with fail
          go_ret
          refine ⟨?_, ⟨⟨_, rfl⟩⟩⟩
          show Ending.returned (.int .i64 (wrap64 (-(coreW b a l)))) = _
          rw [EM.out]
set_option maxHeartbeats 4000000 in
theorem specWork_calls (a b : Int) (A2 : Option Addr) (c2 : Nat) (l : List Int) (w : World) (hr : Kd.C (Kd.int .i64) w A2 l.length l) (hc : l.length ≤ c2) :
    Calls Try.prog 10 #[.int .i64 a, .int .i64 b, .slice A2 l.length c2] w fun e w' => e = .returned (.int .i64 (implWorkV a b l)) ∧ Drawn0 w w' := by
  have hga := specDay_is a
  have hgb := specDay_is b
  cases ha : dayB a
  · rw [ha] at hga
    have e0 : implWorkV a b l = 0 := by unfold implWorkV; rw [ha]; rfl
    rw [e0]
    have HGA := Lib.hid hga; clear hga hgb ha e0 hr hc
    go_enter Try.func10, Try.ntmps10
    go_wp2_with fail
    refine (spec_l2Day.calls _ _ _ HGA.out).mono ?_; rintro e w1 ⟨rfl, hd⟩; have HD := Lib.hid hd; clear hd
    go_wp2_with fail
    go_ret
    exact ⟨rfl, HD.out⟩
  cases hb : dayB b
  · rw [ha] at hga; rw [hb] at hgb
    have e0 : implWorkV a b l = 0 := by unfold implWorkV; rw [ha, hb]; rfl
    rw [e0]
    have HGA := Lib.hid hga; have HGB := Lib.hid hgb; clear hga hgb ha hb e0 hr hc
    go_enter Try.func10, Try.ntmps10
    go_wp2_with fail
    refine (spec_l2Day.calls _ _ _ HGA.out).mono ?_; rintro e w1 ⟨rfl, hd⟩; obtain ⟨q1, rfl⟩ := hd.out; clear hd
    go_wp2_with fail
    refine (spec_l2Day.calls _ _ _ HGB.out).mono ?_; rintro e w2 ⟨rfl, hd⟩; obtain ⟨q2, rfl⟩ := hd.out; clear hd
    go_wp2_with fail
    go_ret
    exact ⟨rfl, ⟨⟨q1 + q2, by simp⟩⟩⟩
  by_cases hl : l.length ≤ 1000
  · by_cases hab : b < a
    · have e0 : implWorkV a b l = -(coreW b a l) := by unfold implWorkV; rw [ha, hb, decide_eq_true hl, if_pos hab]; rfl
      rw [e0]
      exact specWork_down a b A2 c2 l w hr hc hl ha hb hab
    · have e0 : implWorkV a b l = coreW a b l := by unfold implWorkV; rw [ha, hb, decide_eq_true hl, if_neg hab]; rfl
      rw [e0]
      exact specWork_up a b A2 c2 l w hr hc hl ha hb (by omega)
  · rw [ha] at hga; rw [hb] at hgb
    have e0 : implWorkV a b l = 0 := by unfold implWorkV; rw [ha, hb, decide_eq_false hl]; rfl
    rw [e0]
    have blen : decide ((l.length : Int) > 1000) = true := decide_eq_true (by omega)
    have HGA := Lib.hid hga; have HGB := Lib.hid hgb; clear hga hgb ha hb e0 hr hc hl
    go_enter Try.func10, Try.ntmps10
    go_wp2_with fail
    refine (spec_l2Day.calls _ _ _ HGA.out).mono ?_; rintro e w1 ⟨rfl, hd⟩; obtain ⟨q1, rfl⟩ := hd.out; clear hd
    go_wp2_with fail
    refine (spec_l2Day.calls _ _ _ HGB.out).mono ?_; rintro e w2 ⟨rfl, hd⟩; obtain ⟨q2, rfl⟩ := hd.out; clear hd
    go_wp2_with fail
    go_ret
    exact ⟨rfl, ⟨⟨q1 + q2, by simp⟩⟩⟩
def spec_Workdays.f (a0 : Int) (a1 : Int) (l2 : List Int) : Option Int := some (implWorkV a0 a1 l2)
theorem spec_Workdays.calls (a0 : Int) (a1 : Int) (A2 : Option Addr) (c2 : Nat) (l2 : List Int) (r : Int) (w : World) (hr2 : Kd.C (Kd.int .i64) w A2 l2.length l2) (hc2 : l2.length ≤ c2) (h : spec_Workdays.f a0 a1 l2 = some r) :
    Calls Try.prog 10 #[.int .i64 a0, .int .i64 a1, .slice A2 l2.length c2] w fun e w' => e = .returned (.int .i64 r) ∧ Drawn0 w w' := by
  obtain rfl := Option.some.inj h
  exact specWork_calls a0 a1 A2 c2 l2 w hr2 hc2


end Go.Proofs.Ytojfkjggpdlngaa.PFnWorkdays
