/- Functions of the program as Lean functions, and proofs that the Go code comes to their answers: for the law FnExactGoodFormula; made out of the print by a program of mine (compact.py). No conditions but each theorem's own. -/
import Derived.Test.YtegdpgpbdcediaaGreatDoorMFnExactGoodFormulaa0
namespace Go.Proofs.YtegdpgpbdcediaaGreatDoor.PFnExactGoodFormula
open List (map_toArray map_cons map_nil length_drop length_take set_cons_zero set_cons_succ setIfInBounds_toArray)
open Go.RowKit Go.Proofs.YtegdpgpbdcediaaGreatDoorW.PrintWords Go.Proofs.YtegdpgpbdcediaaGreatDoorW.PrintLast Go.Proofs.YtegdpgpbdcediaaGreatDoorW.PrintMore
attribute [local go_sem] max2_int min2_int max_two min_two max_three min_three max_four min_four   -- for this text's walks alone
set_option linter.unusedVariables false
set_option linter.unusedSimpArgs false

attribute [local go_sem high] eqA47 eqA65
/-! ### spec_l3Max: function 83 -/

def spec_l3Max.f (a0 : Int) (a1 : Int) : Option (Int) := if a0 > a1 then (some a0) else (some a1)

set_option maxHeartbeats 8000000 in
set_option maxRecDepth 100000 in
theorem spec_l3Max.calls (a0 : Int) (a1 : Int) (r : Int) (w : World) (h : spec_l3Max.f a0 a1 = some r) :
  Calls Tryz.prog 83 #[.int .i64 a0, .int .i64 a1] w fun e w' => e = .returned (.int .i64 r) ∧ Drawn0 w w' := by
 have H : (if a0 > a1 then (some a0) else (some a1)) = some r := h
 clear h
 by_cases c3 : a0 > a1
 ·rw [if_pos c3] at H
  have c3b0 : decide (a1 < a0) = true := decide_eq_true c3
  clear c3
  obtain rfl := Option.some.inj H
  go_enter Tryz.func83, Tryz.ntmps83
  go_wp2
  go_ret
  exact ⟨by first | rfl | (simp; done) | (simp [*]; done), by repeat (first | exact Drawn0.refl _ | apply Drawn0.step)⟩
 ·rw [if_neg c3] at H
  have c3b0 : decide (a1 < a0) = false := decide_eq_false c3
  clear c3
  obtain rfl := Option.some.inj H
  go_enter Tryz.func83, Tryz.ntmps83
  go_wp2
  go_ret
  exact ⟨by first | rfl | (simp; done) | (simp [*]; done), by repeat (first | exact Drawn0.refl _ | apply Drawn0.step)⟩



/-! ### spec_l4In: function 39 -/

def spec_l4In.l0 : Nat → ByteArray → List ByteArray → Int → Int → Option (Bool)
 | 0, _, _, _, _ => none
 | k + 1, x1, x7, x8, x9 => if x9 < x8 then (if 0 ≤ x9 then (if x9 < (x7.length : Int) then (if (rdOf ByteArray.empty x7 x9).toList = x1.toList then (some true) else (spec_l4In.l0 k x1 x7 x8 (wrap64 (x9 + 1)))) else (none)) else (none)) else (some false)

def spec_l4In.f (k : Nat) (l0 : List ByteArray) (a1 : ByteArray) : Option (Bool) := spec_l4In.l0 k a1 l0 (l0.length : Int) 0

set_option maxHeartbeats 8000000 in
set_option maxRecDepth 100000 in
theorem spec_l4In.calls (k : Nat) (A0 : Option Addr) (c0 : Nat) (l0 : List ByteArray) (a1 : ByteArray) (r : Bool) (w : World) (hr0 : Kd.C Kd.string w A0 l0.length l0) (hc0 : l0.length ≤ c0) (h : spec_l4In.f k l0 a1 = some r) :
  Calls Tryz.prog 39 #[.slice A0 l0.length c0, .string a1] w fun e w' => e = .returned (.bool r) ∧ Drawn0 w w' := by
 have HR0 := Aside0.mk hr0
 have HC0 := Aside0.mk hc0
 clear hr0 hc0
 have H : (spec_l4In.l0 k a1 l0 (l0.length : Int) 0) = some r := h
 clear h
 have H' := Aside0.mk H
 clear H
 go_enter Tryz.func39, Tryz.ntmps39
 go_wp2
 go_loopg [9] k (fun kq v9 w' => ∃ (x9_1 : Int), v9 = .int .i64 x9_1 ∧ Aside0 (spec_l4In.l0 kq a1 l0 (l0.length : Int) x9_1 = some r) ∧ Aside0 (kq ≤ k) ∧ Drawn0 w w')
 case atStart => exact ⟨(0), (by first | rfl | (simp; done) | (simp [*]; done) | (simp; unfold wrap64; omega)), H', ⟨Nat.le_refl _⟩, by repeat (first | exact Drawn0.refl _ | apply Drawn0.step)⟩
 case round =>
  clear H'
  try clear p2
  obtain ⟨x9_1, rfl, HA, HK1, ⟨m1, rfl⟩⟩ := hrel
  cases gk with
  | zero => exact absurd HA.out (by simp [spec_l4In.l0])
  | succ k1 =>
   have H := HA.out
   clear HA
   simp only [spec_l4In.l0] at H
   by_cases c3 : x9_1 < (l0.length : Int)
   ·rw [if_pos c3] at H
    have c3b0 : decide (x9_1 < (l0.length : Int)) = true := decide_eq_true c3
    clear c3
    by_cases c4 : 0 ≤ x9_1
    ·rw [if_pos c4] at H
     have c4b0 : decide (0 ≤ x9_1) = true := decide_eq_true c4
     clear c4
     by_cases c5 : x9_1 < (l0.length : Int)
     ·rw [if_pos c5] at H
      have c5b0 : decide (x9_1 < (l0.length : Int)) = true := decide_eq_true c5
      clear c5
      by_cases c6 : (rdOf ByteArray.empty l0 x9_1).toList = a1.toList
      ·rw [if_pos c6] at H
       have c6b0 : ((rdOf ByteArray.empty l0 x9_1).toList == a1.toList) = true := beq_iff_eq.mpr c6
       have c6b1 : ((rdOf ByteArray.empty l0 x9_1).toList != a1.toList) = false := bne_eq_false_iff_eq.mpr c6
       clear c6
       obtain rfl := Option.some.inj H
       have p131 : 0 ≤ (x9_1 : Int) := of_decide_eq_true (by first | (with_reducible assumption) | assumption)
       have q131 : x9_1 < (l0.length : Int) := of_decide_eq_true (by first | (with_reducible assumption) | assumption)
       obtain ⟨ad131, e131, hx131_0⟩ := Kd.at_string HR0.out x9_1 p131 q131
       cases e131
       replace p131 := eq_true p131
       replace q131 := eq_true q131
       go_wp2
       go_ret
       exact ⟨by first | rfl | (simp; done) | (simp [*]; done), by repeat (first | exact Drawn0.refl _ | apply Drawn0.step)⟩
      ·rw [if_neg c6] at H
       have c6b0 : ((rdOf ByteArray.empty l0 x9_1).toList == a1.toList) = false := beq_eq_false_iff_ne.mpr c6
       have c6b1 : ((rdOf ByteArray.empty l0 x9_1).toList != a1.toList) = true := bne_iff_ne.mpr c6
       have H' := Aside0.mk H
       clear H
       have p131 : 0 ≤ (x9_1 : Int) := of_decide_eq_true (by first | (with_reducible assumption) | assumption)
       have q131 : x9_1 < (l0.length : Int) := of_decide_eq_true (by first | (with_reducible assumption) | assumption)
       obtain ⟨ad131, e131, hx131_0⟩ := Kd.at_string HR0.out x9_1 p131 q131
       cases e131
       replace p131 := eq_true p131
       replace q131 := eq_true q131
       go_wp2
       go_roundg k1
       case measure => have := HK1.out; omega
       case rel => exact ⟨(wrap64 (x9_1 + 1)), (by first | rfl | (simp; done) | (simp [*]; done) | (simp; unfold wrap64; omega)), H', ⟨by have := HK1.out; omega⟩, by repeat (first | exact Drawn0.refl _ | apply Drawn0.step)⟩
     ·rw [if_neg c5] at H
      exact absurd H (by simp)
    ·rw [if_neg c4] at H
     exact absurd H (by simp)
   ·rw [if_neg c3] at H
    have c3b0 : decide (x9_1 < (l0.length : Int)) = false := decide_eq_false c3
    clear c3
    obtain rfl := Option.some.inj H
    go_wp2
    go_ret
    exact ⟨by first | rfl | (simp; done) | (simp [*]; done), by repeat (first | exact Drawn0.refl _ | apply Drawn0.step)⟩



/-! ### spec_l4Upper: function 40 -/

theorem conv_at (s : ByteArray) (w : World) : (convert 9 116 (.string s)).run Tryz.prog w = .ok (.slice (some ⟨w.heap.size, 0, none⟩) s.size (grownCap w s.size 0 5)) (Lib.bytesWorld w 5 s) :=
 Lib.run_convert_string_bytes w _ _ _ s Tryz.underlying9 Tryz.underlying116 Tryz.underlying5

/-- A byte in capitals. -/
def upI (v : Int) : Int := if 97 ≤ v ∧ v ≤ 122 then v - 32 else v

def byI (s : ByteArray) (i : Nat) : Int := ((s.data.toList.getD i 0).toNat : Int)

/-- A text in capitals. -/
def upS (s : ByteArray) : ByteArray := strOfNums ((List.range s.size).map fun i => upI (byI s i))

/-- The row of bytes at the block g, its first bytes read by f. -/
def Row (s : ByteArray) (g : Nat) (w : World) (f : Nat → Int) : Prop := ∃ (cs : Array Value) (N : Nat), w.heap[g]? = some (.cells cs 5 (N, N + 1)) ∧ s.size ≤ N ∧ ∀ i, i < s.size → cs[i]? = some (.int .u8 (f i))

theorem Row.cell {s : ByteArray} {g : Nat} {w : World} {f : Nat → Int} (h : Row s g w f) {i : Nat} (hi : i < s.size) : w.cell? ⟨g, i, none⟩ = some (.int .u8 (f i)) := by
 obtain ⟨cs, N, h1, h2, h3⟩ := h
 rw [cell_of_row w g i cs _ _ h1]; exact h3 i hi

theorem Row.frozen {s : ByteArray} {g : Nat} {w : World} {f : Nat → Int} (h : Row s g w f) {i : Nat} (hi : i < s.size) : w.frozen? ⟨g, i, none⟩ = false := by
 obtain ⟨cs, N, h1, h2, h3⟩ := h
 simp [World.frozen?, h1]; omega

theorem Row.put {s : ByteArray} {g : Nat} {w : World} {f f' : Nat → Int} (h : Row s g w f) {j : Nat} (v : Int) (hv : f' j = v) (ho : ∀ i, i ≠ j → f' i = f i) : Row s g (w.setCell ⟨g, j, none⟩ (.int .u8 v)) f' := by
 obtain ⟨cs, N, h1, h2, h3⟩ := h
 refine ⟨cs.setIfInBounds j (.int .u8 v), N, by simp [World.setCell, Array.getElem?_modify, h1], h2, fun i hi => ?_⟩
 have hsz : i < cs.size := (Array.getElem?_eq_some_iff.1 (h3 i hi)).1
 rw [Array.getElem?_setIfInBounds]
 by_cases e : j = i
 ·subst e; rw [if_pos rfl, if_pos hsz, hv]
 ·rw [if_neg e, ho i (Ne.symm e)]; exact h3 i hi

theorem Row.same {s : ByteArray} {g : Nat} {w : World} {f f' : Nat → Int} (h : Row s g w f) (ho : ∀ i, f' i = f i) : Row s g w f' := by
 obtain ⟨cs, N, h1, h2, h3⟩ := h
 exact ⟨cs, N, h1, h2, fun i hi => by rw [ho]; exact h3 i hi⟩

theorem row_new (s : ByteArray) (w : World) : Row s w.heap.size (Lib.bytesWorld w 5 s) (byI s) := by
 refine ⟨_, _, Lib.bytesWorld_at_new w 5 s, ?_, fun i hi => ?_⟩
 ·simp [Lib.bytesCells]
 ·have := Lib.bytesWorld_cell w 5 s i hi
  rw [cell_of_row _ _ i _ _ _ (Lib.bytesWorld_at_new w 5 s)] at this
  exact this

theorem below_bytes (w : World) (s : ByteArray) : Below w.heap.size w (Lib.bytesWorld w 5 s) := by
 have h1 : Below w.heap.size w (w.drew.alloc (.cells (Lib.bytesCells w 5 s) 5)) := z2q (z3q (Below.refl _ _) 1) _
 refine ⟨h1.os, h1.tape, h1.output, ?_, fun k hk => ?_⟩
 ·rw [Lib.bytesWorld_size]; omega
 ·exact Lib.bytesWorld_at_old w 5 s k hk

theorem conv_back {s : ByteArray} {g : Nat} {w : World} {f : Nat → Int} (h : Row s g w f) (hs : s.size ≤ 9223372036854775807) (c : Nat) : (convert 116 9 (.slice (some ⟨g, 0, none⟩) s.size c)).run Tryz.prog w = .ok (.string (strOfNums ((List.range s.size).map f))) w := by
 refine string_of_reads Tryz.underlying116 Tryz.underlying5 Tryz.underlying9 ⟨by simp, hs, fun _ => ⟨_, rfl, fun j hj => ?_⟩⟩
 have e : (Addr.add ⟨g, 0, none⟩ j) = ⟨g, j, none⟩ := by simp [Addr.add]; intro h; exact h.symm
 rw [e, h.cell hj]
 simp [List.getD_eq_getElem?_getD, hj]

def upTo (s : ByteArray) (j : Nat) (i : Nat) : Int := if i < j then upI (byI s i) else byI s i

theorem byI_le (s : ByteArray) (i : Nat) : 0 ≤ byI s i ∧ byI s i ≤ 255 := by
 unfold byI; have := (s.data.toList.getD i 0).toNat_lt; omega


set_option maxHeartbeats 4000000 in
theorem l4Upper_calls (s : ByteArray) (hs : s.size ≤ 1048576) (w : World) :
  Calls Tryz.prog 40 #[.string s] w fun e w' => e = .returned (.string (upS s)) ∧ Below w.heap.size w w' := by
 have hcv := conv_at s
 have hr := row_new s w
 have hb := below_bytes w s
 have HR := Lib.hid hr; have HB := Lib.hid hb; clear hr hb
 go_enter Tryz.func40, Tryz.ntmps40
 go_wp2_with fail
 go_loopw [10] (fun i w' => ∃ j : Nat, j ≤ s.size ∧ i = .int .i64 j ∧ Hid (Below w.heap.size w w') ∧ Hid (Row s w.heap.size w' (upTo s j))) (fun i _ => s.size - (intOf i).toNat)
 case atStart => exact ⟨0, Nat.zero_le _, rfl, HB.out, HR.out.same fun i => by simp [upTo]⟩
 case round =>
  obtain ⟨j, hj, rfl, hbw, hrow⟩ := hrel
  by_cases hlt : j < s.size
  ·have hcell := hrow.out.cell hlt
   have hfz := hrow.out.frozen hlt
   have e0 : upTo s j j = byI s j := by unfold upTo; rw [if_neg (by omega)]
   rw [e0] at hcell
   obtain ⟨v0, v1⟩ := byI_le s j
   have hput : ∀ i, i ≠ j → upTo s (j + 1) i = upTo s j i := fun i hi => by
    unfold upTo; by_cases h1 : i < j
    ·rw [if_pos h1, if_pos (by omega)]
    ·rw [if_neg h1, if_neg (by omega)]
   have hat : upTo s (j + 1) j = upI (byI s j) := by unfold upTo; rw [if_pos (by omega)]
   have HP := Lib.hid hput; have HA := Lib.hid hat; have HE0 := Lib.hid e0; clear hput hat e0
   by_cases h1 : 97 ≤ byI s j
   ·have b1 : decide (byI s j ≥ 97) = true := decide_eq_true h1
    by_cases h2 : byI s j ≤ 122
    ·have b2 : decide (byI s j ≤ 122) = true := decide_eq_true h2
     go_wp2_with fail
     go_roundw
     case rel => exact ⟨j + 1, by omega, by go_num, Below.setCell hbw.out (p := ⟨w.heap.size, j, none⟩) (Nat.le_refl _) _, hrow.out.put _ (by rw [HA.out]; unfold upI; rw [if_pos ⟨h1, h2⟩]) HP.out⟩
     case measure => simp [intOf]; omega
    ·have b2 : decide (byI s j ≤ 122) = false := decide_eq_false h2
     go_wp2_with fail
     go_roundw
     case rel => exact ⟨j + 1, by omega, by go_num, hbw.out, Row.same (f' := upTo s (j + 1)) hrow.out fun i => by
      by_cases e : i = j
      ·subst e; rw [HA.out, HE0.out]; unfold upI; rw [if_neg (by omega)]
      ·exact HP.out i e⟩
     case measure => simp [intOf]; omega
   ·have b1 : decide (byI s j ≥ 97) = false := decide_eq_false h1
    go_wp2_with fail
    go_roundw
    case rel => exact ⟨j + 1, by omega, by go_num, hbw.out, Row.same (f' := upTo s (j + 1)) hrow.out fun i => by
      by_cases e : i = j
      ·subst e; rw [HA.out, HE0.out]; unfold upI; rw [if_neg (by omega)]
      ·exact HP.out i e⟩
    case measure => simp [intOf]; omega
  ·obtain rfl : j = s.size := by omega
   have hcb := conv_back hrow.out (show s.size ≤ 9223372036854775807 by omega)
   have hup : strOfNums ((List.range s.size).map (upTo s s.size)) = upS s := by
    unfold upS; congr 1
    refine List.map_congr_left fun i hi => ?_
    unfold upTo; rw [if_pos (List.mem_range.1 hi)]
   rw [hup] at hcb
   clear hup
   go_wp2_with fail
   go_ret
   exact ⟨rfl, hbw.out⟩

def spec_l4Upper.f (a0 : ByteArray) : Option ByteArray := if a0.size ≤ 1048576 then some (upS a0) else none

theorem spec_l4Upper.calls (a0 : ByteArray) (r : ByteArray) (w : World) (h : spec_l4Upper.f a0 = some r) :
  Calls Tryz.prog 40 #[.string a0] w fun e w' => e = .returned (.string r) ∧ Below w.heap.size w w' := by
 unfold spec_l4Upper.f at h
 by_cases hs : a0.size ≤ 1048576
 ·rw [if_pos hs] at h
  obtain rfl := Option.some.inj h
  exact l4Upper_calls a0 hs w
 ·rw [if_neg hs] at h; cases h



/-! ### spec_GoodRef: function 44 -/

def spec_GoodRef.f (a0_0 : Int) (a0_1 : Int) (a0_2 : Bool) (a0_3 : Bool) : Option (Bool) := if a0_0 ≥ 1 then (if a0_0 ≤ 1000 then (if a0_1 ≥ 1 then (some (decide (a0_1 ≤ 200))) else (some false)) else (some false)) else (some false)

set_option maxHeartbeats 8000000 in
set_option maxRecDepth 100000 in
theorem spec_GoodRef.calls (a0_0 : Int) (a0_1 : Int) (a0_2 : Bool) (a0_3 : Bool) (r : Bool) (w : World) (h : spec_GoodRef.f a0_0 a0_1 a0_2 a0_3 = some r) :
  Calls Tryz.prog 44 #[.agg #[.int .i64 a0_0, .int .i64 a0_1, .bool a0_2, .bool a0_3]] w fun e w' => e = .returned (.bool r) ∧ Below w.heap.size w w' := by
 have hu47 := Tryz.underlying47
 have HB := Aside0.mk (Below.refl w.heap.size w)
 have H : (if a0_0 ≥ 1 then (if a0_0 ≤ 1000 then (if a0_1 ≥ 1 then (some (decide (a0_1 ≤ 200))) else (some false)) else (some false)) else (some false)) = some r := h
 clear h
 by_cases c2 : a0_0 ≥ 1
 ·rw [if_pos c2] at H
  have c2b0 : decide (1 ≤ a0_0) = true := decide_eq_true c2
  clear c2
  by_cases c3 : a0_0 ≤ 1000
  ·rw [if_pos c3] at H
   have c3b0 : decide (a0_0 ≤ 1000) = true := decide_eq_true c3
   clear c3
   by_cases c4 : a0_1 ≥ 1
   ·rw [if_pos c4] at H
    have c4b0 : decide (1 ≤ a0_1) = true := decide_eq_true c4
    clear c4
    obtain rfl := Option.some.inj H
    go_enter Tryz.func44, Tryz.ntmps44
    go_wp2_with (first | ((with_reducible refine z17q (N := 1) rfl ?_); refine z16q ?hg (N := 1) ?hd (cs := #[.int .i64 a0_0, .int .i64 a0_1, .bool a0_2, .bool a0_3]) (t := 47) ?hr ?_; (case hd => rfl); (case hg => rfl); (case hr => first | (go_simp; done) | (go_simp; rfl)); intro gb135 hg w5 hbox hb; have n0_ := Aside0.mk (z6q (ibh HB.out) hb); have n1_ := Aside0.mk (hbox); have n2_ := Aside0.mk ((by rw [hg]; exact (z7q (ibh HB.out)) : w.heap.size ≤ gb135)); have n3_ := Aside0.mk ((by rw [hg]; exact (z7q (ibh HB.out)) : w.heap.size ≤ gb135)); clear HB; have HB := n0_; have BK135 := n1_; have GW135 := n2_; have GE135 := n3_; clear n0_ n1_ n2_ n3_; clear hb hbox hg; obtain ⟨hcz6_0, hcz6_1, hcz6_2, hcz6_3, hfz6_0, hfz6_1, hfz6_2, hfz6_3⟩ := cr4 (w := w5) (g := gb135) BK135.out))
    go_ret
    exact ⟨by first | rfl | (simp [errW_none, errW_some] <;> rfl) | (simp [*, errW_none, errW_some] <;> rfl), by repeat (first | (with_reducible first | exact HB.out | apply z2q | apply z3q | apply z4q | refine z8q ?_ GE135.out) | exact HB.out)⟩
   ·rw [if_neg c4] at H
    have c4b0 : decide (1 ≤ a0_1) = false := decide_eq_false c4
    clear c4
    obtain rfl := Option.some.inj H
    go_enter Tryz.func44, Tryz.ntmps44
    go_wp2_with (first | ((with_reducible refine z17q (N := 1) rfl ?_); refine z16q ?hg (N := 1) ?hd (cs := #[.int .i64 a0_0, .int .i64 a0_1, .bool a0_2, .bool a0_3]) (t := 47) ?hr ?_; (case hd => rfl); (case hg => rfl); (case hr => first | (go_simp; done) | (go_simp; rfl)); intro gb135 hg w7 hbox hb; have n0_ := Aside0.mk (z6q (ibh HB.out) hb); have n1_ := Aside0.mk (hbox); have n2_ := Aside0.mk ((by rw [hg]; exact (z7q (ibh HB.out)) : w.heap.size ≤ gb135)); have n3_ := Aside0.mk ((by rw [hg]; exact (z7q (ibh HB.out)) : w.heap.size ≤ gb135)); clear HB; have HB := n0_; have BK135 := n1_; have GW135 := n2_; have GE135 := n3_; clear n0_ n1_ n2_ n3_; clear hb hbox hg; obtain ⟨hcz8_0, hcz8_1, hcz8_2, hcz8_3, hfz8_0, hfz8_1, hfz8_2, hfz8_3⟩ := cr4 (w := w7) (g := gb135) BK135.out))
    go_ret
    exact ⟨by first | rfl | (simp [errW_none, errW_some] <;> rfl) | (simp [*, errW_none, errW_some] <;> rfl), by repeat (first | (with_reducible first | exact HB.out | apply z2q | apply z3q | apply z4q | refine z8q ?_ GE135.out) | exact HB.out)⟩
  ·rw [if_neg c3] at H
   have c3b0 : decide (a0_0 ≤ 1000) = false := decide_eq_false c3
   clear c3
   obtain rfl := Option.some.inj H
   go_enter Tryz.func44, Tryz.ntmps44
   go_wp2_with (first | ((with_reducible refine z17q (N := 1) rfl ?_); refine z16q ?hg (N := 1) ?hd (cs := #[.int .i64 a0_0, .int .i64 a0_1, .bool a0_2, .bool a0_3]) (t := 47) ?hr ?_; (case hd => rfl); (case hg => rfl); (case hr => first | (go_simp; done) | (go_simp; rfl)); intro gb135 hg w9 hbox hb; have n0_ := Aside0.mk (z6q (ibh HB.out) hb); have n1_ := Aside0.mk (hbox); have n2_ := Aside0.mk ((by rw [hg]; exact (z7q (ibh HB.out)) : w.heap.size ≤ gb135)); have n3_ := Aside0.mk ((by rw [hg]; exact (z7q (ibh HB.out)) : w.heap.size ≤ gb135)); clear HB; have HB := n0_; have BK135 := n1_; have GW135 := n2_; have GE135 := n3_; clear n0_ n1_ n2_ n3_; clear hb hbox hg; obtain ⟨hcz10_0, hcz10_1, hcz10_2, hcz10_3, hfz10_0, hfz10_1, hfz10_2, hfz10_3⟩ := cr4 (w := w9) (g := gb135) BK135.out))
   go_ret
   exact ⟨by first | rfl | (simp [errW_none, errW_some] <;> rfl) | (simp [*, errW_none, errW_some] <;> rfl), by repeat (first | (with_reducible first | exact HB.out | apply z2q | apply z3q | apply z4q | refine z8q ?_ GE135.out) | exact HB.out)⟩
 ·rw [if_neg c2] at H
  have c2b0 : decide (1 ≤ a0_0) = false := decide_eq_false c2
  clear c2
  obtain rfl := Option.some.inj H
  go_enter Tryz.func44, Tryz.ntmps44
  go_wp2_with (first | ((with_reducible refine z17q (N := 1) rfl ?_); refine z16q ?hg (N := 1) ?hd (cs := #[.int .i64 a0_0, .int .i64 a0_1, .bool a0_2, .bool a0_3]) (t := 47) ?hr ?_; (case hd => rfl); (case hg => rfl); (case hr => first | (go_simp; done) | (go_simp; rfl)); intro gb135 hg w11 hbox hb; have n0_ := Aside0.mk (z6q (ibh HB.out) hb); have n1_ := Aside0.mk (hbox); have n2_ := Aside0.mk ((by rw [hg]; exact (z7q (ibh HB.out)) : w.heap.size ≤ gb135)); have n3_ := Aside0.mk ((by rw [hg]; exact (z7q (ibh HB.out)) : w.heap.size ≤ gb135)); clear HB; have HB := n0_; have BK135 := n1_; have GW135 := n2_; have GE135 := n3_; clear n0_ n1_ n2_ n3_; clear hb hbox hg; obtain ⟨hcz12_0, hcz12_1, hcz12_2, hcz12_3, hfz12_0, hfz12_1, hfz12_2, hfz12_3⟩ := cr4 (w := w11) (g := gb135) BK135.out))
  go_ret
  exact ⟨by first | rfl | (simp [errW_none, errW_some] <;> rfl) | (simp [*, errW_none, errW_some] <;> rfl), by repeat (first | (with_reducible first | exact HB.out | apply z2q | apply z3q | apply z4q | refine z8q ?_ GE135.out) | exact HB.out)⟩



/-! ### spec_GoodDec: function 111 -/

def spec_GoodDec.f (a0_0 : Bool) (a0_1 : Int) (a0_2 : Int) : Option (Bool) := if a0_1 = 0 then (some (!a0_0 && (a0_1 == 0 && (a0_2 == 0)))) else (if a0_1 > 0 then (if a0_1 < 1000000000000000 then (if (Int.tmod a0_1 10) = 0 then (some false) else (if a0_2 ≥ (-300) then (some (decide (a0_2 ≤ 300))) else (some false))) else (some false)) else (some false))

set_option maxHeartbeats 8000000 in
set_option maxRecDepth 100000 in
theorem spec_GoodDec.calls (a0_0 : Bool) (a0_1 : Int) (a0_2 : Int) (r : Bool) (w : World) (h : spec_GoodDec.f a0_0 a0_1 a0_2 = some r) :
  Calls Tryz.prog 111 #[.agg #[.bool a0_0, .int .i64 a0_1, .int .i64 a0_2]] w fun e w' => e = .returned (.bool r) ∧ Below w.heap.size w w' := by
 have hu65 := Tryz.underlying65
 have HB := Aside0.mk (Below.refl w.heap.size w)
 have H : (if a0_1 = 0 then (some (!a0_0 && (a0_1 == 0 && (a0_2 == 0)))) else (if a0_1 > 0 then (if a0_1 < 1000000000000000 then (if (Int.tmod a0_1 10) = 0 then (some false) else (if a0_2 ≥ (-300) then (some (decide (a0_2 ≤ 300))) else (some false))) else (some false)) else (some false))) = some r := h
 clear h
 by_cases c2 : a0_1 = 0
 ·rw [if_pos c2] at H
  have c2b0 : (a0_1 == 0) = true := beq_iff_eq.mpr c2
  have c2b1 : (a0_1 != 0) = false := bne_eq_false_iff_eq.mpr c2
  clear c2
  obtain rfl := Option.some.inj H
  go_enter Tryz.func111, Tryz.ntmps111
  go_wp2_with (first | ((with_reducible refine z17q (N := 1) rfl ?_); refine z16q ?hg (N := 1) ?hd (cs := #[.bool a0_0, .int .i64 a0_1, .int .i64 a0_2]) (t := 65) ?hr ?_; (case hd => rfl); (case hg => rfl); (case hr => first | (go_simp; done) | (go_simp; rfl)); intro gb136 hg w3 hbox hb; have n0_ := Aside0.mk (z6q (ibh HB.out) hb); have n1_ := Aside0.mk (hbox); have n2_ := Aside0.mk ((by rw [hg]; exact (z7q (ibh HB.out)) : w.heap.size ≤ gb136)); have n3_ := Aside0.mk ((by rw [hg]; exact (z7q (ibh HB.out)) : w.heap.size ≤ gb136)); clear HB; have HB := n0_; have BK136 := n1_; have GW136 := n2_; have GE136 := n3_; clear n0_ n1_ n2_ n3_; clear hb hbox hg; obtain ⟨hcz4_0, hcz4_1, hcz4_2, hfz4_0, hfz4_1, hfz4_2⟩ := cr3 (w := w3) (g := gb136) BK136.out))
  go_ret
  exact ⟨by first | rfl | (simp [errW_none, errW_some] <;> rfl) | (simp [*, errW_none, errW_some] <;> rfl), by repeat (first | (with_reducible first | exact HB.out | apply z2q | apply z3q | apply z4q | refine z8q ?_ GE136.out) | exact HB.out)⟩
 ·rw [if_neg c2] at H
  have c2b0 : (a0_1 == 0) = false := beq_eq_false_iff_ne.mpr c2
  have c2b1 : (a0_1 != 0) = true := bne_iff_ne.mpr c2
  by_cases c5 : a0_1 > 0
  ·rw [if_pos c5] at H
   have c5b0 : decide (0 < a0_1) = true := decide_eq_true c5
   clear c5
   by_cases c6 : a0_1 < 1000000000000000
   ·rw [if_pos c6] at H
    have c6b0 : decide (a0_1 < 1000000000000000) = true := decide_eq_true c6
    clear c6
    by_cases c7 : (Int.tmod a0_1 10) = 0
    ·rw [if_pos c7] at H
     have c7b0 : ((Int.tmod a0_1 10) == 0) = true := beq_iff_eq.mpr c7
     have c7b1 : ((Int.tmod a0_1 10) != 0) = false := bne_eq_false_iff_eq.mpr c7
     clear c7
     obtain rfl := Option.some.inj H
     go_enter Tryz.func111, Tryz.ntmps111
     go_wp2_with (first | ((with_reducible refine z17q (N := 1) rfl ?_); refine z16q ?hg (N := 1) ?hd (cs := #[.bool a0_0, .int .i64 a0_1, .int .i64 a0_2]) (t := 65) ?hr ?_; (case hd => rfl); (case hg => rfl); (case hr => first | (go_simp; done) | (go_simp; rfl)); intro gb136 hg w8 hbox hb; have n0_ := Aside0.mk (z6q (ibh HB.out) hb); have n1_ := Aside0.mk (hbox); have n2_ := Aside0.mk ((by rw [hg]; exact (z7q (ibh HB.out)) : w.heap.size ≤ gb136)); have n3_ := Aside0.mk ((by rw [hg]; exact (z7q (ibh HB.out)) : w.heap.size ≤ gb136)); clear HB; have HB := n0_; have BK136 := n1_; have GW136 := n2_; have GE136 := n3_; clear n0_ n1_ n2_ n3_; clear hb hbox hg; obtain ⟨hcz9_0, hcz9_1, hcz9_2, hfz9_0, hfz9_1, hfz9_2⟩ := cr3 (w := w8) (g := gb136) BK136.out))
     go_ret
     exact ⟨by first | rfl | (simp [errW_none, errW_some] <;> rfl) | (simp [*, errW_none, errW_some] <;> rfl), by repeat (first | (with_reducible first | exact HB.out | apply z2q | apply z3q | apply z4q | refine z8q ?_ GE136.out) | exact HB.out)⟩
    ·rw [if_neg c7] at H
     have c7b0 : ((Int.tmod a0_1 10) == 0) = false := beq_eq_false_iff_ne.mpr c7
     have c7b1 : ((Int.tmod a0_1 10) != 0) = true := bne_iff_ne.mpr c7
     by_cases c10 : a0_2 ≥ (-300)
     ·rw [if_pos c10] at H
      have c10b0 : decide ((-300) ≤ a0_2) = true := decide_eq_true c10
      clear c10
      obtain rfl := Option.some.inj H
      go_enter Tryz.func111, Tryz.ntmps111
      go_wp2_with (first | ((with_reducible refine z17q (N := 1) rfl ?_); refine z16q ?hg (N := 1) ?hd (cs := #[.bool a0_0, .int .i64 a0_1, .int .i64 a0_2]) (t := 65) ?hr ?_; (case hd => rfl); (case hg => rfl); (case hr => first | (go_simp; done) | (go_simp; rfl)); intro gb136 hg w11 hbox hb; have n0_ := Aside0.mk (z6q (ibh HB.out) hb); have n1_ := Aside0.mk (hbox); have n2_ := Aside0.mk ((by rw [hg]; exact (z7q (ibh HB.out)) : w.heap.size ≤ gb136)); have n3_ := Aside0.mk ((by rw [hg]; exact (z7q (ibh HB.out)) : w.heap.size ≤ gb136)); clear HB; have HB := n0_; have BK136 := n1_; have GW136 := n2_; have GE136 := n3_; clear n0_ n1_ n2_ n3_; clear hb hbox hg; obtain ⟨hcz12_0, hcz12_1, hcz12_2, hfz12_0, hfz12_1, hfz12_2⟩ := cr3 (w := w11) (g := gb136) BK136.out))
      go_ret
      exact ⟨by first | rfl | (simp [errW_none, errW_some] <;> rfl) | (simp [*, errW_none, errW_some] <;> rfl), by repeat (first | (with_reducible first | exact HB.out | apply z2q | apply z3q | apply z4q | refine z8q ?_ GE136.out) | exact HB.out)⟩
     ·rw [if_neg c10] at H
      have c10b0 : decide ((-300) ≤ a0_2) = false := decide_eq_false c10
      clear c10
      obtain rfl := Option.some.inj H
      go_enter Tryz.func111, Tryz.ntmps111
      go_wp2_with (first | ((with_reducible refine z17q (N := 1) rfl ?_); refine z16q ?hg (N := 1) ?hd (cs := #[.bool a0_0, .int .i64 a0_1, .int .i64 a0_2]) (t := 65) ?hr ?_; (case hd => rfl); (case hg => rfl); (case hr => first | (go_simp; done) | (go_simp; rfl)); intro gb136 hg w13 hbox hb; have n0_ := Aside0.mk (z6q (ibh HB.out) hb); have n1_ := Aside0.mk (hbox); have n2_ := Aside0.mk ((by rw [hg]; exact (z7q (ibh HB.out)) : w.heap.size ≤ gb136)); have n3_ := Aside0.mk ((by rw [hg]; exact (z7q (ibh HB.out)) : w.heap.size ≤ gb136)); clear HB; have HB := n0_; have BK136 := n1_; have GW136 := n2_; have GE136 := n3_; clear n0_ n1_ n2_ n3_; clear hb hbox hg; obtain ⟨hcz14_0, hcz14_1, hcz14_2, hfz14_0, hfz14_1, hfz14_2⟩ := cr3 (w := w13) (g := gb136) BK136.out))
      go_ret
      exact ⟨by first | rfl | (simp [errW_none, errW_some] <;> rfl) | (simp [*, errW_none, errW_some] <;> rfl), by repeat (first | (with_reducible first | exact HB.out | apply z2q | apply z3q | apply z4q | refine z8q ?_ GE136.out) | exact HB.out)⟩
   ·rw [if_neg c6] at H
    have c6b0 : decide (a0_1 < 1000000000000000) = false := decide_eq_false c6
    clear c6
    obtain rfl := Option.some.inj H
    go_enter Tryz.func111, Tryz.ntmps111
    go_wp2_with (first | ((with_reducible refine z17q (N := 1) rfl ?_); refine z16q ?hg (N := 1) ?hd (cs := #[.bool a0_0, .int .i64 a0_1, .int .i64 a0_2]) (t := 65) ?hr ?_; (case hd => rfl); (case hg => rfl); (case hr => first | (go_simp; done) | (go_simp; rfl)); intro gb136 hg w15 hbox hb; have n0_ := Aside0.mk (z6q (ibh HB.out) hb); have n1_ := Aside0.mk (hbox); have n2_ := Aside0.mk ((by rw [hg]; exact (z7q (ibh HB.out)) : w.heap.size ≤ gb136)); have n3_ := Aside0.mk ((by rw [hg]; exact (z7q (ibh HB.out)) : w.heap.size ≤ gb136)); clear HB; have HB := n0_; have BK136 := n1_; have GW136 := n2_; have GE136 := n3_; clear n0_ n1_ n2_ n3_; clear hb hbox hg; obtain ⟨hcz16_0, hcz16_1, hcz16_2, hfz16_0, hfz16_1, hfz16_2⟩ := cr3 (w := w15) (g := gb136) BK136.out))
    go_ret
    exact ⟨by first | rfl | (simp [errW_none, errW_some] <;> rfl) | (simp [*, errW_none, errW_some] <;> rfl), by repeat (first | (with_reducible first | exact HB.out | apply z2q | apply z3q | apply z4q | refine z8q ?_ GE136.out) | exact HB.out)⟩
  ·rw [if_neg c5] at H
   have c5b0 : decide (0 < a0_1) = false := decide_eq_false c5
   clear c5
   obtain rfl := Option.some.inj H
   go_enter Tryz.func111, Tryz.ntmps111
   go_wp2_with (first | ((with_reducible refine z17q (N := 1) rfl ?_); refine z16q ?hg (N := 1) ?hd (cs := #[.bool a0_0, .int .i64 a0_1, .int .i64 a0_2]) (t := 65) ?hr ?_; (case hd => rfl); (case hg => rfl); (case hr => first | (go_simp; done) | (go_simp; rfl)); intro gb136 hg w17 hbox hb; have n0_ := Aside0.mk (z6q (ibh HB.out) hb); have n1_ := Aside0.mk (hbox); have n2_ := Aside0.mk ((by rw [hg]; exact (z7q (ibh HB.out)) : w.heap.size ≤ gb136)); have n3_ := Aside0.mk ((by rw [hg]; exact (z7q (ibh HB.out)) : w.heap.size ≤ gb136)); clear HB; have HB := n0_; have BK136 := n1_; have GW136 := n2_; have GE136 := n3_; clear n0_ n1_ n2_ n3_; clear hb hbox hg; obtain ⟨hcz18_0, hcz18_1, hcz18_2, hfz18_0, hfz18_1, hfz18_2⟩ := cr3 (w := w17) (g := gb136) BK136.out))
   go_ret
   exact ⟨by first | rfl | (simp [errW_none, errW_some] <;> rfl) | (simp [*, errW_none, errW_some] <;> rfl), by repeat (first | (with_reducible first | exact HB.out | apply z2q | apply z3q | apply z4q | refine z8q ?_ GE136.out) | exact HB.out)⟩



/-! ### spec_l4Bare: function 112 -/

def spec_l4Bare.f (a0_0 : Int) (a0_1 : ByteArray) (a0_2 : Bool) (a0_3 : Int) (a0_4 : Int) (a0_5 : Int) (a0_6 : Int) (a0_7 : Bool) (a0_8 : Bool) (a0_9 : Int) (a0_10 : Int) (a0_11 : Bool) (a0_12 : Bool) (a0_13 : Int) : Option (Bool) := if (!a0_2 && (a0_3 == 0 && (a0_4 == 0))) = true then (if (a0_5 == 0 && (a0_6 == 0 && (!a0_7 && (!a0_8)))) = true then (some (a0_9 == 0 && (a0_10 == 0 && (!a0_11 && (!a0_12))))) else (some false)) else (some false)

set_option maxHeartbeats 8000000 in
set_option maxRecDepth 100000 in
theorem spec_l4Bare.calls (a0_0 : Int) (a0_1 : ByteArray) (a0_2 : Bool) (a0_3 : Int) (a0_4 : Int) (a0_5 : Int) (a0_6 : Int) (a0_7 : Bool) (a0_8 : Bool) (a0_9 : Int) (a0_10 : Int) (a0_11 : Bool) (a0_12 : Bool) (a0_13 : Int) (r : Bool) (w : World) (h : spec_l4Bare.f a0_0 a0_1 a0_2 a0_3 a0_4 a0_5 a0_6 a0_7 a0_8 a0_9 a0_10 a0_11 a0_12 a0_13 = some r) :
  Calls Tryz.prog 112 #[.agg #[.int .i64 a0_0, .string a0_1, .bool a0_2, .int .i64 a0_3, .int .i64 a0_4, .int .i64 a0_5, .int .i64 a0_6, .bool a0_7, .bool a0_8, .int .i64 a0_9, .int .i64 a0_10, .bool a0_11, .bool a0_12, .int .i64 a0_13]] w fun e w' => e = .returned (.bool r) ∧ Below w.heap.size w w' := by
 have hu67 := Tryz.underlying67
 have hu65 := Tryz.underlying65
 have hu47 := Tryz.underlying47
 have HB := Aside0.mk (Below.refl w.heap.size w)
 have H : (if (!a0_2 && (a0_3 == 0 && (a0_4 == 0))) = true then (if (a0_5 == 0 && (a0_6 == 0 && (!a0_7 && (!a0_8)))) = true then (some (a0_9 == 0 && (a0_10 == 0 && (!a0_11 && (!a0_12))))) else (some false)) else (some false)) = some r := h
 clear h
 by_cases c2 : (!a0_2 && (a0_3 == 0 && (a0_4 == 0))) = true
 ·rw [if_pos c2] at H
  have c2b0 : (!a0_2 && (a0_3 == 0 && (a0_4 == 0))) = true := c2
  clear c2
  by_cases c3 : (a0_5 == 0 && (a0_6 == 0 && (!a0_7 && (!a0_8)))) = true
  ·rw [if_pos c3] at H
   have c3b0 : (a0_5 == 0 && (a0_6 == 0 && (!a0_7 && (!a0_8)))) = true := c3
   (try (have c3b1 : decide (a0_5 = 0 && (a0_6 == 0 && (!a0_7 && (!a0_8)))) = true := by simpa using c3))
   (try (have c3b2 : (a0_5 == 0 && (a0_6 == 0 && (!a0_7 && (!a0_8)))) = true := by simpa using c3))
   clear c3
   obtain rfl := Option.some.inj H
   go_enter Tryz.func112, Tryz.ntmps112
   go_wp2_with (first | ((with_reducible refine z17q (N := 1) rfl ?_); refine z16q ?hg (N := 1) ?hd (cs := #[.int .i64 a0_0, .string a0_1, .bool a0_2, .int .i64 a0_3, .int .i64 a0_4, .int .i64 a0_5, .int .i64 a0_6, .bool a0_7, .bool a0_8, .int .i64 a0_9, .int .i64 a0_10, .bool a0_11, .bool a0_12, .int .i64 a0_13]) (t := 67) ?hr ?_; (case hd => rfl); (case hg => rfl); (case hr => first | (go_simp; done) | (go_simp; rfl)); intro gb137 hg w4 hbox hb; have n0_ := Aside0.mk (z6q (ibh HB.out) hb); have n1_ := Aside0.mk (hbox); have n2_ := Aside0.mk ((by rw [hg]; exact (z7q (ibh HB.out)) : w.heap.size ≤ gb137)); have n3_ := Aside0.mk ((by rw [hg]; exact (z7q (ibh HB.out)) : w.heap.size ≤ gb137)); clear HB; have HB := n0_; have BK137 := n1_; have GW137 := n2_; have GE137 := n3_; clear n0_ n1_ n2_ n3_; clear hb hbox hg; obtain ⟨hcz5_0, hcz5_1, hcz5_2, hcz5_3, hcz5_4, hcz5_5, hcz5_6, hcz5_7, hcz5_8, hcz5_9, hcz5_10, hcz5_11, hcz5_12, hcz5_13, hfz5_0, hfz5_1, hfz5_2, hfz5_3, hfz5_4, hfz5_5, hfz5_6, hfz5_7, hfz5_8, hfz5_9, hfz5_10, hfz5_11, hfz5_12, hfz5_13⟩ := cr14 (w := w4) (g := gb137) BK137.out))
   go_ret
   exact ⟨by first | rfl | (simp [errW_none, errW_some] <;> rfl) | (simp [*, errW_none, errW_some] <;> rfl), by repeat (first | (with_reducible first | exact HB.out | apply z2q | apply z3q | apply z4q | refine z8q ?_ GE137.out) | exact HB.out)⟩
  ·rw [if_neg c3] at H
   have c3b0 : (a0_5 == 0 && (a0_6 == 0 && (!a0_7 && (!a0_8)))) = false := by simpa using c3
   (try (have c3b1 : decide (a0_5 = 0 && (a0_6 == 0 && (!a0_7 && (!a0_8)))) = false := by simpa using c3))
   (try (have c3b2 : (a0_5 == 0 && (a0_6 == 0 && (!a0_7 && (!a0_8)))) = false := by simpa using c3))
   (try (have c3b3 : ¬ (a0_5 = 0 && (a0_6 == 0 && (!a0_7 && (!a0_8)))) := by simpa using c3))
   clear c3
   obtain rfl := Option.some.inj H
   go_enter Tryz.func112, Tryz.ntmps112
   go_wp2_with (first | ((with_reducible refine z17q (N := 1) rfl ?_); refine z16q ?hg (N := 1) ?hd (cs := #[.int .i64 a0_0, .string a0_1, .bool a0_2, .int .i64 a0_3, .int .i64 a0_4, .int .i64 a0_5, .int .i64 a0_6, .bool a0_7, .bool a0_8, .int .i64 a0_9, .int .i64 a0_10, .bool a0_11, .bool a0_12, .int .i64 a0_13]) (t := 67) ?hr ?_; (case hd => rfl); (case hg => rfl); (case hr => first | (go_simp; done) | (go_simp; rfl)); intro gb137 hg w6 hbox hb; have n0_ := Aside0.mk (z6q (ibh HB.out) hb); have n1_ := Aside0.mk (hbox); have n2_ := Aside0.mk ((by rw [hg]; exact (z7q (ibh HB.out)) : w.heap.size ≤ gb137)); have n3_ := Aside0.mk ((by rw [hg]; exact (z7q (ibh HB.out)) : w.heap.size ≤ gb137)); clear HB; have HB := n0_; have BK137 := n1_; have GW137 := n2_; have GE137 := n3_; clear n0_ n1_ n2_ n3_; clear hb hbox hg; obtain ⟨hcz7_0, hcz7_1, hcz7_2, hcz7_3, hcz7_4, hcz7_5, hcz7_6, hcz7_7, hcz7_8, hcz7_9, hcz7_10, hcz7_11, hcz7_12, hcz7_13, hfz7_0, hfz7_1, hfz7_2, hfz7_3, hfz7_4, hfz7_5, hfz7_6, hfz7_7, hfz7_8, hfz7_9, hfz7_10, hfz7_11, hfz7_12, hfz7_13⟩ := cr14 (w := w6) (g := gb137) BK137.out))
   go_ret
   exact ⟨by first | rfl | (simp [errW_none, errW_some] <;> rfl) | (simp [*, errW_none, errW_some] <;> rfl), by repeat (first | (with_reducible first | exact HB.out | apply z2q | apply z3q | apply z4q | refine z8q ?_ GE137.out) | exact HB.out)⟩
 ·rw [if_neg c2] at H
  have c2b0 : (!a0_2 && (a0_3 == 0 && (a0_4 == 0))) = false := by simpa using c2
  clear c2
  obtain rfl := Option.some.inj H
  go_enter Tryz.func112, Tryz.ntmps112
  go_wp2_with (first | ((with_reducible refine z17q (N := 1) rfl ?_); refine z16q ?hg (N := 1) ?hd (cs := #[.int .i64 a0_0, .string a0_1, .bool a0_2, .int .i64 a0_3, .int .i64 a0_4, .int .i64 a0_5, .int .i64 a0_6, .bool a0_7, .bool a0_8, .int .i64 a0_9, .int .i64 a0_10, .bool a0_11, .bool a0_12, .int .i64 a0_13]) (t := 67) ?hr ?_; (case hd => rfl); (case hg => rfl); (case hr => first | (go_simp; done) | (go_simp; rfl)); intro gb137 hg w8 hbox hb; have n0_ := Aside0.mk (z6q (ibh HB.out) hb); have n1_ := Aside0.mk (hbox); have n2_ := Aside0.mk ((by rw [hg]; exact (z7q (ibh HB.out)) : w.heap.size ≤ gb137)); have n3_ := Aside0.mk ((by rw [hg]; exact (z7q (ibh HB.out)) : w.heap.size ≤ gb137)); clear HB; have HB := n0_; have BK137 := n1_; have GW137 := n2_; have GE137 := n3_; clear n0_ n1_ n2_ n3_; clear hb hbox hg; obtain ⟨hcz9_0, hcz9_1, hcz9_2, hcz9_3, hcz9_4, hcz9_5, hcz9_6, hcz9_7, hcz9_8, hcz9_9, hcz9_10, hcz9_11, hcz9_12, hcz9_13, hfz9_0, hfz9_1, hfz9_2, hfz9_3, hfz9_4, hfz9_5, hfz9_6, hfz9_7, hfz9_8, hfz9_9, hfz9_10, hfz9_11, hfz9_12, hfz9_13⟩ := cr14 (w := w8) (g := gb137) BK137.out))
  go_ret
  exact ⟨by first | rfl | (simp [errW_none, errW_some] <;> rfl) | (simp [*, errW_none, errW_some] <;> rfl), by repeat (first | (with_reducible first | exact HB.out | apply z2q | apply z3q | apply z4q | refine z8q ?_ GE137.out) | exact HB.out)⟩



/-! ### spec_l4Printed: function 113 -/

def spec_l4Printed.l0 : Nat → ByteArray → Int → Int → Option (Bool)
 | 0, _, _, _ => none
 | k + 1, x0, x1, x5 => if x5 < (x0.size : Int) then (if 0 ≤ x5 then (if (bt x0 x5) < 32 then (some false) else (if (bt x0 x5) > 126 then (some false) else (spec_l4Printed.l0 k x0 x1 (wrap64 (x5 + 1))))) else (none)) else (some (decide ((x0.size : Int) ≤ x1)))

def spec_l4Printed.f (k : Nat) (a0 : ByteArray) (a1 : Int) : Option (Bool) := spec_l4Printed.l0 k a0 a1 0

set_option maxHeartbeats 8000000 in
set_option maxRecDepth 100000 in
theorem spec_l4Printed.calls (k : Nat) (a0 : ByteArray) (a1 : Int) (r : Bool) (w : World) (h : spec_l4Printed.f k a0 a1 = some r) :
  Calls Tryz.prog 113 #[.string a0, .int .i64 a1] w fun e w' => e = .returned (.bool r) ∧ Drawn0 w w' := by
 have H : (spec_l4Printed.l0 k a0 a1 0) = some r := h
 clear h
 have H' := Aside0.mk H
 clear H
 go_enter Tryz.func113, Tryz.ntmps113
 go_wp2
 go_loopg [5] k (fun kq v5 w' => ∃ (x5_1 : Int), v5 = .int .i64 x5_1 ∧ Aside0 (spec_l4Printed.l0 kq a0 a1 x5_1 = some r) ∧ Aside0 (kq ≤ k) ∧ Drawn0 w w')
 case atStart => exact ⟨(0), (by first | rfl | (simp; done) | (simp [*]; done) | (simp; unfold wrap64; omega)), H', ⟨Nat.le_refl _⟩, by repeat (first | exact Drawn0.refl _ | apply Drawn0.step)⟩
 case round =>
  clear H'
  try clear c1
  try clear p2
  obtain ⟨x5_1, rfl, HA, HK1, ⟨m1, rfl⟩⟩ := hrel
  cases gk with
  | zero => exact absurd HA.out (by simp [spec_l4Printed.l0])
  | succ k1 =>
   have H := HA.out
   clear HA
   simp only [spec_l4Printed.l0] at H
   by_cases c3 : x5_1 < (a0.size : Int)
   ·rw [if_pos c3] at H
    have c3b0 : decide (x5_1 < (a0.size : Int)) = true := decide_eq_true c3
    clear c3
    by_cases c4 : 0 ≤ x5_1
    ·rw [if_pos c4] at H
     have c4b0 : decide (0 ≤ x5_1) = true := decide_eq_true c4
     clear c4
     by_cases c6 : (bt a0 x5_1) < 32
     ·rw [if_pos c6] at H
      have c6b0 : decide ((bt a0 x5_1) < 32) = true := decide_eq_true c6
      clear c6
      obtain rfl := Option.some.inj H
      have p5 : 0 ≤ (x5_1 : Int) := of_decide_eq_true (by first | (with_reducible assumption) | assumption)
      have q5 : x5_1 < (a0.size : Int) := of_decide_eq_true (by first | (with_reducible assumption) | assumption)
      have hx5 := bt_at a0 x5_1
      replace p5 := eq_true p5
      replace q5 := eq_true q5
      go_wp2
      go_ret
      exact ⟨by first | rfl | (simp; done) | (simp [*]; done), by repeat (first | exact Drawn0.refl _ | apply Drawn0.step)⟩
     ·rw [if_neg c6] at H
      have c6b0 : decide ((bt a0 x5_1) < 32) = false := decide_eq_false c6
      clear c6
      by_cases c8 : (bt a0 x5_1) > 126
      ·rw [if_pos c8] at H
       have c8b0 : decide (126 < (bt a0 x5_1)) = true := decide_eq_true c8
       clear c8
       obtain rfl := Option.some.inj H
       have p5 : 0 ≤ (x5_1 : Int) := of_decide_eq_true (by first | (with_reducible assumption) | assumption)
       have q5 : x5_1 < (a0.size : Int) := of_decide_eq_true (by first | (with_reducible assumption) | assumption)
       have hx5 := bt_at a0 x5_1
       replace p5 := eq_true p5
       replace q5 := eq_true q5
       have p7 : 0 ≤ (x5_1 : Int) := of_decide_eq_true (by first | (with_reducible assumption) | assumption)
       have q7 : x5_1 < (a0.size : Int) := of_decide_eq_true (by first | (with_reducible assumption) | assumption)
       have hx7 := bt_at a0 x5_1
       replace p7 := eq_true p7
       replace q7 := eq_true q7
       go_wp2
       go_ret
       exact ⟨by first | rfl | (simp; done) | (simp [*]; done), by repeat (first | exact Drawn0.refl _ | apply Drawn0.step)⟩
      ·rw [if_neg c8] at H
       have c8b0 : decide (126 < (bt a0 x5_1)) = false := decide_eq_false c8
       clear c8
       have H' := Aside0.mk H
       clear H
       have p5 : 0 ≤ (x5_1 : Int) := of_decide_eq_true (by first | (with_reducible assumption) | assumption)
       have q5 : x5_1 < (a0.size : Int) := of_decide_eq_true (by first | (with_reducible assumption) | assumption)
       have hx5 := bt_at a0 x5_1
       replace p5 := eq_true p5
       replace q5 := eq_true q5
       have p7 : 0 ≤ (x5_1 : Int) := of_decide_eq_true (by first | (with_reducible assumption) | assumption)
       have q7 : x5_1 < (a0.size : Int) := of_decide_eq_true (by first | (with_reducible assumption) | assumption)
       have hx7 := bt_at a0 x5_1
       replace p7 := eq_true p7
       replace q7 := eq_true q7
       go_wp2
       go_roundg k1
       case measure => have := HK1.out; omega
       case rel => exact ⟨(wrap64 (x5_1 + 1)), (by first | rfl | (simp; done) | (simp [*]; done) | (simp; unfold wrap64; omega)), H', ⟨by have := HK1.out; omega⟩, by repeat (first | exact Drawn0.refl _ | apply Drawn0.step)⟩
    ·rw [if_neg c4] at H
     exact absurd H (by simp)
   ·rw [if_neg c3] at H
    have c3b0 : decide (x5_1 < (a0.size : Int)) = false := decide_eq_false c3
    clear c3
    obtain rfl := Option.some.inj H
    go_wp2
    go_ret
    exact ⟨by first | rfl | (simp; done) | (simp [*]; done), by repeat (first | exact Drawn0.refl _ | apply Drawn0.step)⟩



/-! ### spec_l4Errors: function 114 -/

def spec_l4Errors.f  : Option (List ByteArray) := some (([(⟨#[35, 78, 85, 76, 76, 33]⟩ : ByteArray), (⟨#[35, 68, 73, 86, 47, 48, 33]⟩ : ByteArray), (⟨#[35, 86, 65, 76, 85, 69, 33]⟩ : ByteArray), (⟨#[35, 82, 69, 70, 33]⟩ : ByteArray), (⟨#[35, 78, 65, 77, 69, 63]⟩ : ByteArray), (⟨#[35, 78, 85, 77, 33]⟩ : ByteArray), (⟨#[35, 78, 47, 65]⟩ : ByteArray), (⟨#[35, 83, 80, 73, 76, 76, 33]⟩ : ByteArray), (⟨#[35, 67, 89, 67, 76, 69, 33]⟩ : ByteArray)] : List ByteArray))

set_option maxHeartbeats 8000000 in
set_option maxRecDepth 100000 in
theorem spec_l4Errors.calls  (r : List ByteArray) (w : World) (h : spec_l4Errors.f  = some r) :
  Calls Tryz.prog 114 #[] w fun e w' => ∃ v0_ : Value, e = .returned (v0_) ∧ Kd.R Kd.string 9 w' w.heap.size (fun _ => True) v0_ r ∧ Below w.heap.size w w' := by
 have HB := Aside0.mk (Below.refl w.heap.size w)
 have H : (some (([(⟨#[35, 78, 85, 76, 76, 33]⟩ : ByteArray), (⟨#[35, 68, 73, 86, 47, 48, 33]⟩ : ByteArray), (⟨#[35, 86, 65, 76, 85, 69, 33]⟩ : ByteArray), (⟨#[35, 82, 69, 70, 33]⟩ : ByteArray), (⟨#[35, 78, 65, 77, 69, 63]⟩ : ByteArray), (⟨#[35, 78, 85, 77, 33]⟩ : ByteArray), (⟨#[35, 78, 47, 65]⟩ : ByteArray), (⟨#[35, 83, 80, 73, 76, 76, 33]⟩ : ByteArray), (⟨#[35, 67, 89, 67, 76, 69, 33]⟩ : ByteArray)] : List ByteArray))) = some r := h
 clear h
 obtain ⟨y138, hy138⟩ : ∃ y_ : List ByteArray, y_ = (([(⟨#[35, 78, 85, 76, 76, 33]⟩ : ByteArray), (⟨#[35, 68, 73, 86, 47, 48, 33]⟩ : ByteArray), (⟨#[35, 86, 65, 76, 85, 69, 33]⟩ : ByteArray), (⟨#[35, 82, 69, 70, 33]⟩ : ByteArray), (⟨#[35, 78, 65, 77, 69, 63]⟩ : ByteArray), (⟨#[35, 78, 85, 77, 33]⟩ : ByteArray), (⟨#[35, 78, 47, 65]⟩ : ByteArray), (⟨#[35, 83, 80, 73, 76, 76, 33]⟩ : ByteArray), (⟨#[35, 67, 89, 67, 76, 69, 33]⟩ : ByteArray)] : List ByteArray)) := ⟨_, rfl⟩
 replace H : (some y138) = some r := by first | (rw [hy138]; with_reducible exact H) | (have H2_ := (Option.bind_some _ _).symm.trans H; rw [hy138]; with_reducible exact H2_) | (have H2_ := (Option.bind_some _ _).symm.trans H; with_reducible exact H2_) | with_reducible exact H | (rw [hy138]; exact H) | exact H
 have Ny138 := Aside0.mk hy138
 clear hy138
 obtain rfl := Option.some.inj H
 go_enter Tryz.func114, Tryz.ntmps114
 go_wp2_with (first | ((with_reducible refine z17q (N := 1) rfl ?_); refine Kd.R_lit Kd.string _ 9 ?hg (N := 1) ?hd (xs := ([(⟨#[35, 78, 85, 76, 76, 33]⟩ : ByteArray), (⟨#[35, 68, 73, 86, 47, 48, 33]⟩ : ByteArray), (⟨#[35, 86, 65, 76, 85, 69, 33]⟩ : ByteArray), (⟨#[35, 82, 69, 70, 33]⟩ : ByteArray), (⟨#[35, 78, 65, 77, 69, 63]⟩ : ByteArray), (⟨#[35, 78, 85, 77, 33]⟩ : ByteArray), (⟨#[35, 78, 47, 65]⟩ : ByteArray), (⟨#[35, 83, 80, 73, 76, 76, 33]⟩ : ByteArray), (⟨#[35, 67, 89, 67, 76, 69, 33]⟩ : ByteArray)] : List ByteArray)) (inner := [.string (⟨#[35, 78, 85, 76, 76, 33]⟩ : ByteArray), .string (⟨#[35, 68, 73, 86, 47, 48, 33]⟩ : ByteArray), .string (⟨#[35, 86, 65, 76, 85, 69, 33]⟩ : ByteArray), .string (⟨#[35, 82, 69, 70, 33]⟩ : ByteArray), .string (⟨#[35, 78, 65, 77, 69, 63]⟩ : ByteArray), .string (⟨#[35, 78, 85, 77, 33]⟩ : ByteArray), .string (⟨#[35, 78, 47, 65]⟩ : ByteArray), .string (⟨#[35, 83, 80, 73, 76, 76, 33]⟩ : ByteArray), .string (⟨#[35, 67, 89, 67, 76, 69, 33]⟩ : ByteArray)]) (ok := fun _ => True) (okp := fun _ => True) ?hr ?hp (fun _ hk => hk) trivial (Below.refl _ _) (Nat.le_refl _) (by simp) ?_; (case hd => rfl); (case hg => rfl); (case hr => first | (go_simp; done) | (go_simp; rfl)); (case hp => exact (Reps.one (show Kd.M Kd.string _ _ _ (⟨#[35, 78, 85, 76, 76, 33]⟩ : ByteArray) [.string (⟨#[35, 78, 85, 76, 76, 33]⟩ : ByteArray)] from rfl) (Reps.one (show Kd.M Kd.string _ _ _ (⟨#[35, 68, 73, 86, 47, 48, 33]⟩ : ByteArray) [.string (⟨#[35, 68, 73, 86, 47, 48, 33]⟩ : ByteArray)] from rfl) (Reps.one (show Kd.M Kd.string _ _ _ (⟨#[35, 86, 65, 76, 85, 69, 33]⟩ : ByteArray) [.string (⟨#[35, 86, 65, 76, 85, 69, 33]⟩ : ByteArray)] from rfl) (Reps.one (show Kd.M Kd.string _ _ _ (⟨#[35, 82, 69, 70, 33]⟩ : ByteArray) [.string (⟨#[35, 82, 69, 70, 33]⟩ : ByteArray)] from rfl) (Reps.one (show Kd.M Kd.string _ _ _ (⟨#[35, 78, 65, 77, 69, 63]⟩ : ByteArray) [.string (⟨#[35, 78, 65, 77, 69, 63]⟩ : ByteArray)] from rfl) (Reps.one (show Kd.M Kd.string _ _ _ (⟨#[35, 78, 85, 77, 33]⟩ : ByteArray) [.string (⟨#[35, 78, 85, 77, 33]⟩ : ByteArray)] from rfl) (Reps.one (show Kd.M Kd.string _ _ _ (⟨#[35, 78, 47, 65]⟩ : ByteArray) [.string (⟨#[35, 78, 47, 65]⟩ : ByteArray)] from rfl) (Reps.one (show Kd.M Kd.string _ _ _ (⟨#[35, 83, 80, 73, 76, 76, 33]⟩ : ByteArray) [.string (⟨#[35, 83, 80, 73, 76, 76, 33]⟩ : ByteArray)] from rfl) (Reps.one (show Kd.M Kd.string _ _ _ (⟨#[35, 67, 89, 67, 76, 69, 33]⟩ : ByteArray) [.string (⟨#[35, 67, 89, 67, 76, 69, 33]⟩ : ByteArray)] from rfl) (Reps.none _ _))))))))))); intro v139 w1 ho2 hb hg_ hnew_; clear hg_ hnew_; (first | rw [← Ny138.out] at ho2 | (simp only [Int.reduceToNat] at ho2; rw [← Ny138.out] at ho2)); have n0_ := Aside0.mk (Kd.R_lower ho2 (z7q (ibh HB.out))); have n1_ := Aside0.mk (z6q (ibh HB.out) hb); clear HB; have HO140 := n0_; have HB := n1_; clear n0_ n1_; clear hb ho2))
 go_ret
 exact ⟨_, by first | rfl | (simp [errW_none, errW_some] <;> rfl) | (simp [*, errW_none, errW_some] <;> rfl), by (with_reducible repeat (first | apply Kd.R_alloc | apply Kd.R_drewN | apply Kd.R_drew)); exact HO140.out, by repeat (first | (with_reducible first | exact HB.out | apply z2q | apply z3q | apply z4q) | exact HB.out)⟩



/-! ### spec_l4Letter: function 130 -/

def spec_l4Letter.f (a0 : Int) : Option (Bool) := if a0 ≥ 97 then (if a0 ≤ 122 then (some true) else (if a0 ≥ 65 then (some (decide (a0 ≤ 90))) else (some false))) else (if a0 ≥ 65 then (some (decide (a0 ≤ 90))) else (some false))

set_option maxHeartbeats 8000000 in
set_option maxRecDepth 100000 in
theorem spec_l4Letter.calls (a0 : Int) (r : Bool) (w : World) (h : spec_l4Letter.f a0 = some r) :
  Calls Tryz.prog 130 #[.int .u8 a0] w fun e w' => e = .returned (.bool r) ∧ Drawn0 w w' := by
 have H : (if a0 ≥ 97 then (if a0 ≤ 122 then (some true) else (if a0 ≥ 65 then (some (decide (a0 ≤ 90))) else (some false))) else (if a0 ≥ 65 then (some (decide (a0 ≤ 90))) else (some false))) = some r := h
 clear h
 by_cases c2 : a0 ≥ 97
 ·rw [if_pos c2] at H
  have c2b0 : decide (97 ≤ a0) = true := decide_eq_true c2
  clear c2
  by_cases c3 : a0 ≤ 122
  ·rw [if_pos c3] at H
   have c3b0 : decide (a0 ≤ 122) = true := decide_eq_true c3
   clear c3
   obtain rfl := Option.some.inj H
   go_enter Tryz.func130, Tryz.ntmps130
   go_wp2
   go_ret
   exact ⟨by first | rfl | (simp; done) | (simp [*]; done), by repeat (first | exact Drawn0.refl _ | apply Drawn0.step)⟩
  ·rw [if_neg c3] at H
   have c3b0 : decide (a0 ≤ 122) = false := decide_eq_false c3
   clear c3
   by_cases c4 : a0 ≥ 65
   ·rw [if_pos c4] at H
    have c4b0 : decide (65 ≤ a0) = true := decide_eq_true c4
    clear c4
    obtain rfl := Option.some.inj H
    go_enter Tryz.func130, Tryz.ntmps130
    go_wp2
    go_ret
    exact ⟨by first | rfl | (simp; done) | (simp [*]; done), by repeat (first | exact Drawn0.refl _ | apply Drawn0.step)⟩
   ·rw [if_neg c4] at H
    have c4b0 : decide (65 ≤ a0) = false := decide_eq_false c4
    clear c4
    obtain rfl := Option.some.inj H
    go_enter Tryz.func130, Tryz.ntmps130
    go_wp2
    go_ret
    exact ⟨by first | rfl | (simp; done) | (simp [*]; done), by repeat (first | exact Drawn0.refl _ | apply Drawn0.step)⟩
 ·rw [if_neg c2] at H
  have c2b0 : decide (97 ≤ a0) = false := decide_eq_false c2
  clear c2
  by_cases c5 : a0 ≥ 65
  ·rw [if_pos c5] at H
   have c5b0 : decide (65 ≤ a0) = true := decide_eq_true c5
   clear c5
   obtain rfl := Option.some.inj H
   go_enter Tryz.func130, Tryz.ntmps130
   go_wp2
   go_ret
   exact ⟨by first | rfl | (simp; done) | (simp [*]; done), by repeat (first | exact Drawn0.refl _ | apply Drawn0.step)⟩
  ·rw [if_neg c5] at H
   have c5b0 : decide (65 ≤ a0) = false := decide_eq_false c5
   clear c5
   obtain rfl := Option.some.inj H
   go_enter Tryz.func130, Tryz.ntmps130
   go_wp2
   go_ret
   exact ⟨by first | rfl | (simp; done) | (simp [*]; done), by repeat (first | exact Drawn0.refl _ | apply Drawn0.step)⟩



/-! ### spec_l1Digit: function 134 -/

def spec_l1Digit.f (a0 : Int) : Option (Bool) := if a0 ≥ 48 then (some (decide (a0 ≤ 57))) else (some false)

set_option maxHeartbeats 8000000 in
set_option maxRecDepth 100000 in
theorem spec_l1Digit.calls (a0 : Int) (r : Bool) (w : World) (h : spec_l1Digit.f a0 = some r) :
  Calls Tryz.prog 134 #[.int .u8 a0] w fun e w' => e = .returned (.bool r) ∧ Drawn0 w w' := by
 have H : (if a0 ≥ 48 then (some (decide (a0 ≤ 57))) else (some false)) = some r := h
 clear h
 by_cases c2 : a0 ≥ 48
 ·rw [if_pos c2] at H
  have c2b0 : decide (48 ≤ a0) = true := decide_eq_true c2
  clear c2
  obtain rfl := Option.some.inj H
  go_enter Tryz.func134, Tryz.ntmps134
  go_wp2
  go_ret
  exact ⟨by first | rfl | (simp; done) | (simp [*]; done), by repeat (first | exact Drawn0.refl _ | apply Drawn0.step)⟩
 ·rw [if_neg c2] at H
  have c2b0 : decide (48 ≤ a0) = false := decide_eq_false c2
  clear c2
  obtain rfl := Option.some.inj H
  go_enter Tryz.func134, Tryz.ntmps134
  go_wp2
  go_ret
  exact ⟨by first | rfl | (simp; done) | (simp [*]; done), by repeat (first | exact Drawn0.refl _ | apply Drawn0.step)⟩



/-! ### spec_l4NameByte: function 131 -/

def spec_l4NameByte.f (a0 : Int) : Option (Bool) := (spec_l4Letter.f a0).bind fun t141 => (if t141 = true then (some true) else ((spec_l1Digit.f a0).bind fun t142 => (if t142 = true then (some true) else (if a0 = 95 then (some true) else (some (a0 == 46))))))

set_option maxHeartbeats 8000000 in
set_option maxRecDepth 100000 in
theorem spec_l4NameByte.calls (a0 : Int) (r : Bool) (w : World) (h : spec_l4NameByte.f a0 = some r) :
  Calls Tryz.prog 131 #[.int .u8 a0] w fun e w' => e = .returned (.bool r) ∧ Drawn0 w w' := by
 have H : ((spec_l4Letter.f a0).bind fun t141 => (if t141 = true then (some true) else ((spec_l1Digit.f a0).bind fun t142 => (if t142 = true then (some true) else (if a0 = 95 then (some true) else (some (a0 == 46))))))) = some r := h
 clear h
 replace H := Option.bind_eq_some_iff.mp H
 obtain ⟨t141, A20, H⟩ := H
 replace H : (if t141 = true then (some true) else ((spec_l1Digit.f a0).bind fun t142 => (if t142 = true then (some true) else (if a0 = 95 then (some true) else (some (a0 == 46)))))) = some r := H
 have A2 := Aside0.mk A20
 clear A20
 by_cases c3 : t141 = true
 ·subst c3
  have H1 : (some true) = some r := by rw [if_pos rfl] at H; exact H
  clear H
  have H := H1
  clear H1
  obtain rfl := Option.some.inj H
  go_enter Tryz.func131, Tryz.ntmps131
  go_wp2_with (first | ((with_reducible refine z14q (f := 130) rfl ?_); refine z20q (some 4) rfl rfl Tryz.func130 (by kernel_rfl) rfl #[.int .u8 a0] rfl (by (try simp only [map_toArray, map_cons, map_nil]); first | done | rfl | (simp only [length_drop, length_take]; rfl)) ?_; (with_reducible refine (spec_l4Letter.calls a0 true _ A2.out).mono ?_); rintro e w' ⟨rfl, ⟨nd, rfl⟩⟩; refine ⟨_, rfl, ?_⟩))
  go_ret
  exact ⟨by first | rfl | (simp; done) | (simp [*]; done), by repeat (first | exact Drawn0.refl _ | apply Drawn0.step)⟩
 ·replace c3 := Bool.eq_false_iff.mpr c3
  subst c3
  have H1 : ((spec_l1Digit.f a0).bind fun t142 => (if t142 = true then (some true) else (if a0 = 95 then (some true) else (some (a0 == 46))))) = some r := by rw [if_neg (show ¬ (false = true) by decide)] at H; exact H
  clear H
  have H := H1
  clear H1
  replace H := Option.bind_eq_some_iff.mp H
  obtain ⟨t142, A40, H⟩ := H
  replace H : (if t142 = true then (some true) else (if a0 = 95 then (some true) else (some (a0 == 46)))) = some r := H
  have A4 := Aside0.mk A40
  clear A40
  by_cases c5 : t142 = true
  ·subst c5
   have H1 : (some true) = some r := by rw [if_pos rfl] at H; exact H
   clear H
   have H := H1
   clear H1
   obtain rfl := Option.some.inj H
   go_enter Tryz.func131, Tryz.ntmps131
   go_wp2_with (first | ((with_reducible refine z14q (f := 130) rfl ?_); refine z20q (some 4) rfl rfl Tryz.func130 (by kernel_rfl) rfl #[.int .u8 a0] rfl (by (try simp only [map_toArray, map_cons, map_nil]); first | done | rfl | (simp only [length_drop, length_take]; rfl)) ?_; (with_reducible refine (spec_l4Letter.calls a0 false _ A2.out).mono ?_); rintro e w' ⟨rfl, ⟨nd, rfl⟩⟩; refine ⟨_, rfl, ?_⟩) | (go_at_call 134; (with_reducible refine (spec_l1Digit.calls a0 true _ A4.out).mono ?_); rintro e w' ⟨rfl, ⟨nd, rfl⟩⟩))
   go_ret
   exact ⟨by first | rfl | (simp; done) | (simp [*]; done), by repeat (first | exact Drawn0.refl _ | apply Drawn0.step)⟩
  ·replace c5 := Bool.eq_false_iff.mpr c5
   subst c5
   have H1 : (if a0 = 95 then (some true) else (some (a0 == 46))) = some r := by rw [if_neg (show ¬ (false = true) by decide)] at H; exact H
   clear H
   have H := H1
   clear H1
   by_cases c6 : a0 = 95
   ·rw [if_pos c6] at H
    have c6b0 : (a0 == 95) = true := beq_iff_eq.mpr c6
    have c6b1 : (a0 != 95) = false := bne_eq_false_iff_eq.mpr c6
    clear c6
    obtain rfl := Option.some.inj H
    go_enter Tryz.func131, Tryz.ntmps131
    go_wp2_with (first | ((with_reducible refine z14q (f := 130) rfl ?_); refine z20q (some 4) rfl rfl Tryz.func130 (by kernel_rfl) rfl #[.int .u8 a0] rfl (by (try simp only [map_toArray, map_cons, map_nil]); first | done | rfl | (simp only [length_drop, length_take]; rfl)) ?_; (with_reducible refine (spec_l4Letter.calls a0 false _ A2.out).mono ?_); rintro e w' ⟨rfl, ⟨nd, rfl⟩⟩; refine ⟨_, rfl, ?_⟩) | (go_at_call 134; (with_reducible refine (spec_l1Digit.calls a0 false _ A4.out).mono ?_); rintro e w' ⟨rfl, ⟨nd, rfl⟩⟩))
    go_ret
    exact ⟨by first | rfl | (simp; done) | (simp [*]; done), by repeat (first | exact Drawn0.refl _ | apply Drawn0.step)⟩
   ·rw [if_neg c6] at H
    have c6b0 : (a0 == 95) = false := beq_eq_false_iff_ne.mpr c6
    have c6b1 : (a0 != 95) = true := bne_iff_ne.mpr c6
    obtain rfl := Option.some.inj H
    go_enter Tryz.func131, Tryz.ntmps131
    go_wp2_with (first | ((with_reducible refine z14q (f := 130) rfl ?_); refine z20q (some 4) rfl rfl Tryz.func130 (by kernel_rfl) rfl #[.int .u8 a0] rfl (by (try simp only [map_toArray, map_cons, map_nil]); first | done | rfl | (simp only [length_drop, length_take]; rfl)) ?_; (with_reducible refine (spec_l4Letter.calls a0 false _ A2.out).mono ?_); rintro e w' ⟨rfl, ⟨nd, rfl⟩⟩; refine ⟨_, rfl, ?_⟩) | (go_at_call 134; (with_reducible refine (spec_l1Digit.calls a0 false _ A4.out).mono ?_); rintro e w' ⟨rfl, ⟨nd, rfl⟩⟩))
    go_ret
    exact ⟨by first | rfl | (simp; done) | (simp [*]; done), by repeat (first | exact Drawn0.refl _ | apply Drawn0.step)⟩



/-! ### spec_l4Second: function 132 -/

mutual
def spec_l4Second.j0 : Nat → ByteArray → Int → Int → Bool → Option (Bool)
 | 0, _, _, _, _ => none
 | k + 1, x0, x3, x4, x14 => if x14 = true then (spec_l4Second.l0 k x0 (wrap64 (x3 + 1)) (wrap64 (x4 + 1))) else (spec_l4Second.j2 k x0 x3 x4)
def spec_l4Second.j2 : Nat → ByteArray → Int → Int → Option (Bool)
 | 0, _, _, _ => none
 | k + 1, x0, x3, x4 => if x3 < (x0.size : Int) then (if 0 ≤ x3 then (spec_l4Second.j3 k x0 x3 x4 ((bt x0 x3) == 67)) else (none)) else (spec_l4Second.j3 k x0 x3 x4 false)
def spec_l4Second.j3 : Nat → ByteArray → Int → Int → Bool → Option (Bool)
 | 0, _, _, _, _ => none
 | k + 1, x0, x3, x4, x40 => if x40 = true then (spec_l4Second.l1 k x0 (wrap64 (x3 + 1)) (wrap64 (x4 + 1))) else (if x4 > 0 then (some (x3 == (x0.size : Int))) else (some false))
def spec_l4Second.l1 : Nat → ByteArray → Int → Int → Option (Bool)
 | 0, _, _, _ => none
 | k + 1, x0, x3, x4 => if x3 < (x0.size : Int) then (if 0 ≤ x3 then ((spec_l1Digit.f (bt x0 x3)).bind fun t144 => (if t144 = true then (spec_l4Second.l1 k x0 (wrap64 (x3 + 1)) x4) else (if x4 > 0 then (some (x3 == (x0.size : Int))) else (some false)))) else (none)) else (if x4 > 0 then (some (x3 == (x0.size : Int))) else (some false))
def spec_l4Second.l0 : Nat → ByteArray → Int → Int → Option (Bool)
 | 0, _, _, _ => none
 | k + 1, x0, x3, x4 => if x3 < (x0.size : Int) then (if 0 ≤ x3 then ((spec_l1Digit.f (bt x0 x3)).bind fun t143 => (if t143 = true then (spec_l4Second.l0 k x0 (wrap64 (x3 + 1)) x4) else (spec_l4Second.j2 k x0 x3 x4))) else (none)) else (spec_l4Second.j2 k x0 x3 x4)
end

def spec_l4Second.f (k : Nat) (a0 : ByteArray) : Option (Bool) := if 0 < (a0.size : Int) then (spec_l4Second.j0 k a0 0 0 ((bt a0 0) == 82)) else (spec_l4Second.j0 k a0 0 0 false)

end Go.Proofs.YtegdpgpbdcediaaGreatDoor.PFnExactGoodFormula
