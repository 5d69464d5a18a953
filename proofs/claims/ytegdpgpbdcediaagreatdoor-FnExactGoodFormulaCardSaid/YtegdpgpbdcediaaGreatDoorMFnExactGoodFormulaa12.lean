/- Functions of the program as Lean functions, and proofs that the Go code comes to their answers: for the law FnExactGoodFormula; made out of the print by a program of mine (compact.py). No conditions but each theorem's own. -/
import Derived.Test.YtegdpgpbdcediaaGreatDoorMFnExactGoodFormulaa0
import Derived.Test.YtegdpgpbdcediaaGreatDoorMFnExactGoodFormulaa11
namespace Go.Proofs.YtegdpgpbdcediaaGreatDoor.PFnExactGoodFormula
open List (map_toArray map_cons map_nil length_drop length_take set_cons_zero set_cons_succ setIfInBounds_toArray)
open Go.RowKit Go.Proofs.YtegdpgpbdcediaaGreatDoorW.PrintWords Go.Proofs.YtegdpgpbdcediaaGreatDoorW.PrintLast Go.Proofs.YtegdpgpbdcediaaGreatDoorW.PrintMore
attribute [local go_sem] max2_int min2_int max_two min_two max_three min_three max_four min_four   -- for this text's walks alone
set_option linter.unusedVariables false
set_option linter.unusedSimpArgs false

attribute [local go_sem high] eqA47 eqA65
theorem shl_laysC172 : Go.Proofs.LaysC.n172 Tryz.prog shl_laysC172_ren := {
 mixed := by kernel_rfl
 f129 := Tryz.func161.trans (congrArg some (by kernel_rfl))
 f171 := Tryz.func101.trans (congrArg some (by kernel_rfl))
 f172 := Tryz.func100.trans (congrArg some (by kernel_rfl))
 f205 := Tryz.func143.trans (congrArg some (by kernel_rfl))
 f243 := Tryz.func110.trans (congrArg some (by kernel_rfl))
 f244 := Tryz.func108.trans (congrArg some (by kernel_rfl))
 f245 := Tryz.func109.trans (congrArg some (by kernel_rfl))
 f246 := Tryz.func129.trans (congrArg some (by kernel_rfl))
 f247 := Tryz.func124.trans (congrArg some (by kernel_rfl))
 f279 := Tryz.func125.trans (congrArg some (by kernel_rfl))
 f280 := Tryz.func126.trans (congrArg some (by kernel_rfl))
 f281 := Tryz.func127.trans (congrArg some (by kernel_rfl))
 f282 := Tryz.func128.trans (congrArg some (by kernel_rfl))
 f283 := Tryz.func144.trans (congrArg some (by kernel_rfl))
 f284 := Tryz.func145.trans (congrArg some (by kernel_rfl))
 f285 := Tryz.func146.trans (congrArg some (by kernel_rfl))
 f286 := Tryz.func147.trans (congrArg some (by kernel_rfl))
 f287 := Tryz.func141.trans (congrArg some (by kernel_rfl))
 f316 := Tryz.func142.trans (congrArg some (by kernel_rfl))
 f317 := Tryz.func160.trans (congrArg some (by kernel_rfl))
 f318 := Tryz.func162.trans (congrArg some (by kernel_rfl))
 f319 := Tryz.func163.trans (congrArg some (by kernel_rfl))
 f320 := Tryz.func164.trans (congrArg some (by kernel_rfl))
 f321 := Tryz.func158.trans (congrArg some (by kernel_rfl))
 f322 := Tryz.func159.trans (congrArg some (by kernel_rfl))
 f337 := Tryz.func167.trans (congrArg some (by kernel_rfl))
 f338 := Tryz.func168.trans (congrArg some (by kernel_rfl))
 t0 := Tryz.underlying0
 a0 := Tryz.isAgg0
 z0 := Tryz.sizeOf0
 v0 := Tryz.zeroValue0
 t2 := Tryz.underlying2
 a2 := Tryz.isAgg2
 z2 := Tryz.sizeOf2
 v2 := Tryz.zeroValue2
 t3 := Tryz.underlying3
 a3 := Tryz.isAgg3
 z3 := Tryz.sizeOf3
 v3 := Tryz.zeroValue3
 t4 := Tryz.underlying4
 a4 := Tryz.isAgg4
 z4 := Tryz.sizeOf4
 v4 := Tryz.zeroValue4
 t5 := Tryz.underlying5
 a5 := Tryz.isAgg5
 z5 := Tryz.sizeOf5
 v5 := Tryz.zeroValue5
 t9 := Tryz.underlying9
 a9 := Tryz.isAgg9
 z9 := Tryz.sizeOf9
 v9 := Tryz.zeroValue9
 t20 := Tryz.underlying20
 a20 := Tryz.isAgg20
 z20 := Tryz.sizeOf20
 v20 := Tryz.zeroValue20
 t21 := Tryz.underlying21
 a21 := Tryz.isAgg21
 z21 := Tryz.sizeOf21
 v21 := Tryz.zeroValue21
 t37 := Tryz.underlying116
 a37 := Tryz.isAgg116
 z37 := Tryz.sizeOf116
 v37 := Tryz.zeroValue116
 t46 := Tryz.underlying169
 a46 := Tryz.isAgg169
 z46 := Tryz.sizeOf169
 v46 := Tryz.zeroValue169
 t51 := Tryz.underlying179
 a51 := Tryz.isAgg179
 z51 := Tryz.sizeOf179
 v51 := Tryz.zeroValue179
 t53 := Tryz.underlying166
 a53 := Tryz.isAgg166
 z53 := Tryz.sizeOf166
 v53 := Tryz.zeroValue166
 t75 := Tryz.underlying139
 a75 := Tryz.isAgg139
 z75 := Tryz.sizeOf139
 v75 := Tryz.zeroValue139
 t76 := Tryz.underlying140
 a76 := Tryz.isAgg140
 z76 := Tryz.sizeOf140
 v76 := Tryz.zeroValue140
 t85 := Tryz.underlying154
 a85 := Tryz.isAgg154
 z85 := Tryz.sizeOf154
 v85 := Tryz.zeroValue154
 t127 := Tryz.underlying186
 a127 := Tryz.isAgg186
 z127 := Tryz.sizeOf186
 v127 := Tryz.zeroValue186
 t143 := Tryz.underlying187
 a143 := Tryz.isAgg187
 z143 := Tryz.sizeOf187
 v143 := Tryz.zeroValue187
 t145 := Tryz.underlying189
 a145 := Tryz.isAgg189
 z145 := Tryz.sizeOf189
 v145 := Tryz.zeroValue189
 t167 := Tryz.underlying153
 a167 := Tryz.isAgg153
 z167 := Tryz.sizeOf153
 v167 := Tryz.zeroValue153
 t168 := Tryz.underlying156
 a168 := Tryz.isAgg156
 z168 := Tryz.sizeOf156
 v168 := Tryz.zeroValue156
 t171 := Tryz.underlying173
 a171 := Tryz.isAgg173
 z171 := Tryz.sizeOf173
 v171 := Tryz.zeroValue173
 t173 := Tryz.underlying176
 a173 := Tryz.isAgg176
 z173 := Tryz.sizeOf176
 v173 := Tryz.zeroValue176
 t175 := Tryz.underlying167
 a175 := Tryz.isAgg167
 z175 := Tryz.sizeOf167
 v175 := Tryz.zeroValue167
 t210 := Tryz.underlying171
 a210 := Tryz.isAgg171
 z210 := Tryz.sizeOf171
 v210 := Tryz.zeroValue171
 t212 := Tryz.underlying191
 a212 := Tryz.isAgg191
 z212 := Tryz.sizeOf191
 v212 := Tryz.zeroValue191
 t213 := Tryz.underlying192
 a213 := Tryz.isAgg192
 z213 := Tryz.sizeOf192
 t232 := Tryz.underlying197
 a232 := Tryz.isAgg197
 z232 := Tryz.sizeOf197
 v232 := Tryz.zeroValue197
 t233 := Tryz.underlying198
 a233 := Tryz.isAgg198
 z233 := Tryz.sizeOf198
 v233 := Tryz.zeroValue198
 g15 := by kernel_rfl
 g16 := by kernel_rfl
 g17 := by kernel_rfl
 g18 := by kernel_rfl
 g19 := by kernel_rfl
 t80 := Tryz.underlying201
 a80 := Tryz.isAgg201
 z80 := Tryz.sizeOf201
 v80 := Tryz.zeroValue201
 i0 := by kernel_rfl
 i2 := by kernel_rfl
 i3 := by kernel_rfl
 i4 := by kernel_rfl
 i5 := by kernel_rfl
 i9 := by kernel_rfl
 i20 := by kernel_rfl
 i21 := by kernel_rfl
 i37 := by kernel_rfl
 i46 := by kernel_rfl
 i51 := by kernel_rfl
 i53 := by kernel_rfl
 i75 := by kernel_rfl
 i76 := by kernel_rfl
 i80 := by kernel_rfl
 i85 := by kernel_rfl
 i127 := by kernel_rfl
 i143 := by kernel_rfl
 i145 := by kernel_rfl
 i167 := by kernel_rfl
 i168 := by kernel_rfl
 i171 := by kernel_rfl
 i173 := by kernel_rfl
 i175 := by kernel_rfl
 i210 := by kernel_rfl
 i212 := by kernel_rfl
 i232 := by kernel_rfl
 i233 := by kernel_rfl
 m15 := by kernel_rfl
 m16 := by kernel_rfl
 m17 := by kernel_rfl
 m18 := by kernel_rfl
 m19 := by kernel_rfl
 c0 := by kernel_rfl
 c2 := by kernel_rfl
 c3 := by kernel_rfl
 c4 := by kernel_rfl
 c5 := by kernel_rfl
 c9 := by kernel_rfl
 c20 := by kernel_rfl
 c21 := by kernel_rfl
 c37 := by kernel_rfl
 c46 := by kernel_rfl
 c51 := by kernel_rfl
 c53 := by kernel_rfl
 c75 := by kernel_rfl
 c76 := by kernel_rfl
 c80 := by kernel_rfl
 c85 := by kernel_rfl
 c127 := by kernel_rfl
 c143 := by kernel_rfl
 c145 := by kernel_rfl
 c167 := by kernel_rfl
 c168 := by kernel_rfl
 c171 := by kernel_rfl
 c173 := by kernel_rfl
 c175 := by kernel_rfl
 c210 := by kernel_rfl
 c212 := by kernel_rfl
 c213 := by kernel_rfl
 c232 := by kernel_rfl
 c233 := by kernel_rfl }

open Go.RowKit Go.Sort Go.Lib in

theorem shl_strconv_Atoi_ok (s : ByteArray) (hmax : s.size ≤ 9223372036854775806) (v : Int) (h : Lib.atoiAll s.data.toList = .ok v) (w : World) :
  Calls Tryz.prog 100 #[.string s] w fun e w' => e = .returned (.tuple #[.int .i64 v, .nilIface]) ∧ (w' = w ∨ ∃ t, w' = Lib.bytesWorld w 5 t) := Any.strconv_Atoi_ok shl_laysC172 s hmax v h w


open Go.RowKit Go.Sort Go.Lib in

theorem shl_strconv_Atoi_syntax_var (s : ByteArray) (hlim : s.size ≤ 281474976710656) (h : Lib.atoiAll s.data.toList = Lib.NumEnd.syntax) (tp : TypeId) (p : Value) (w : World) (hvar : w.var? Tryz.prog "strconv.ErrSyntax" = some #[.iface tp p]) :
  Calls Tryz.prog 100 #[.string s] w fun e w' => ∃ N, e = .returned (.tuple #[.int .i64 0, .iface 156 (.pointer (some ⟨N, 0, none⟩))]) ∧ w.heap.size ≤ N ∧ w'.heap[N]? = some (.cells #[.string ⟨#[65, 116, 111, 105]⟩, .string s, .iface tp p] 171 (0, 0)) ∧ Below w.heap.size w w' := Any.strconv_Atoi_syntax_var shl_laysC172 s hlim h tp p w hvar


open Go.RowKit Go.Sort Go.Lib in

theorem shl_strconv_Atoi_range_var (s : ByteArray) (hlim : s.size ≤ 281474976710656) (h : Lib.atoiAll s.data.toList = .range) (tp : TypeId) (p : Value) (w : World) (hvar : w.var? Tryz.prog "strconv.ErrRange" = some #[.iface tp p]) :
  Calls Tryz.prog 100 #[.string s] w fun e w' => ∃ N, e = .returned (.tuple #[.int .i64 (Lib.atoiSat s.data.toList), .iface 156 (.pointer (some ⟨N, 0, none⟩))]) ∧ w.heap.size ≤ N ∧ w'.heap[N]? = some (.cells #[.string ⟨#[65, 116, 111, 105]⟩, .string s, .iface tp p] 171 (0, 0)) ∧ Below w.heap.size w w' := Any.strconv_Atoi_range_var shl_laysC172 s hlim h tp p w hvar


theorem atoi_bytes (w : World) (s : ByteArray) : Below w.heap.size w (Lib.bytesWorld w 5 s) := by
 have h1 : Below w.heap.size w (w.drew.alloc (.cells (Lib.bytesCells w 5 s) 5)) := z2q (z3q (Below.refl _ _) 1) _
 refine ⟨h1.os, h1.tape, h1.output, ?_, fun k hk => ?_⟩
 ·rw [Lib.bytesWorld_size]; omega
 ·exact Lib.bytesWorld_at_old w 5 s k hk

/-- The error beside the number: none, or one of the library's two. -/
def ErrIs (r : Option Int) (ev : Value) : Prop := match r with
 | none => ev = .nilIface
 | some _ => ∃ N, ev = .iface 156 (.pointer (some ⟨N, 0, none⟩))

def atoiV (s : ByteArray) : Int × Option Int := match Lib.atoiAll s.data.toList with
 | .ok v => (v, none)
 | Lib.NumEnd.syntax => (0, some 0)
 | .range => (Lib.atoiSat s.data.toList, some 1)

def strconv_Atoi.f (a0 : ByteArray) : Option (Int × Option Int) := if a0.size ≤ 281474976710656 then some (atoiV a0) else none

theorem strconv_Atoi.calls (a0 : ByteArray) (r1 : Int) (r2 : Option Int) (w : World) (hT : Tab w) (h : strconv_Atoi.f a0 = some (r1, r2)) :
  Calls Tryz.prog 100 #[.string a0] w fun e w' => ∃ ev, e = .returned (.tuple #[.int .i64 r1, ev]) ∧ Below w.heap.size w w' ∧ Aside0 (ErrIs r2 ev) := by
 unfold strconv_Atoi.f at h
 by_cases hs : a0.size ≤ 281474976710656
 ·rw [if_pos hs] at h
  replace h := Option.some.inj h
  unfold atoiV at h
  cases ha : Lib.atoiAll a0.data.toList with
  | ok v =>
   rw [ha] at h; injection h with h1 h2; subst h1; subst h2
   refine (shl_strconv_Atoi_ok a0 (by omega) v ha w).mono fun e w' ⟨he, hw⟩ => ⟨_, he, ?_, ⟨rfl⟩⟩
   rcases hw with rfl | ⟨t, rfl⟩
   ·exact Below.refl _ _
   ·exact atoi_bytes w t
  | range =>
   rw [ha] at h; injection h with h1 h2; subst h1; subst h2
   obtain ⟨tp, p, hv⟩ := hT.toS.2
   exact (shl_strconv_Atoi_range_var a0 hs ha tp p w hv).mono fun e w' ⟨N, he, _, _, hb⟩ => ⟨_, he, hb, ⟨N, rfl⟩⟩
  | _ =>
   rw [ha] at h; injection h with h1 h2; subst h1; subst h2
   obtain ⟨tp, p, hv⟩ := hT.toS.1
   exact (shl_strconv_Atoi_syntax_var a0 hs ha tp p w hv).mono fun e w' ⟨N, he, _, _, hb⟩ => ⟨_, he, hb, ⟨N, rfl⟩⟩
 ·rw [if_neg hs] at h; cases h



/-! ### strings_HasPrefix: function 121 -/

def shl_lays99_ren : Go.Shelf.Ren := ⟨fun | 99 => 121 | 206 => 139 | n => n, fun | 9 => 9 | 4 => 4 | 3 => 3 | n => n, fun | n => n⟩

theorem shl_lays99 : Go.Proofs.Lays.n99 Tryz.prog shl_lays99_ren := {
 mixed := by kernel_rfl
 f99 := Tryz.func121.trans (congrArg some (by kernel_rfl))
 f206 := Tryz.func139.trans (congrArg some (by kernel_rfl))
 t3 := Tryz.underlying3
 a3 := Tryz.isAgg3
 z3 := Tryz.sizeOf3
 v3 := Tryz.zeroValue3
 t4 := Tryz.underlying4
 a4 := Tryz.isAgg4
 z4 := Tryz.sizeOf4
 v4 := Tryz.zeroValue4
 t9 := Tryz.underlying9
 a9 := Tryz.isAgg9
 z9 := Tryz.sizeOf9
 v9 := Tryz.zeroValue9 }

open Go.RowKit Go.Sort Go.Lib in

theorem shl_strings_HasPrefix (s p : ByteArray) (w : World) :
  Calls Tryz.prog 121 #[.string s, .string p] w fun e w' => e = .returned (.bool (Lib.hasPrefix s.data.toList p.data.toList)) ∧ w' = w := Any.strings_HasPrefix shl_lays99 s p w


def strings_HasPrefix.f (a0 : ByteArray) (a1 : ByteArray) : Option Bool := some (Lib.hasPrefix a0.data.toList a1.data.toList)

theorem strings_HasPrefix.calls (a0 : ByteArray) (a1 : ByteArray) (r : Bool) (w : World) (h : strings_HasPrefix.f a0 a1 = some r) :
  Calls Tryz.prog 121 #[.string a0, .string a1] w fun e w' => e = .returned (.bool r) ∧ Drawn0 w w' := by
 obtain rfl := Option.some.inj h
 exact (shl_strings_HasPrefix a0 a1 w).mono fun e w' ⟨he, hw⟩ => ⟨he, hw ▸ Drawn0.refl _⟩



/-! ### impl_ColNumber: function 122 -/

mutual
def impl_ColNumber.j0 : Nat → ByteArray → Bool → Option (Int)
 | 0, _, _ => none
 | k + 1, x0, x12 => if x12 = true then (some 0) else (impl_ColNumber.l0 k x0 0 0)
def impl_ColNumber.l0 : Nat → ByteArray → Int → Int → Option (Int)
 | 0, _, _, _ => none
 | k + 1, x0, x3, x4 => if x4 < (x0.size : Int) then (if 0 ≤ x4 then (if (bt x0 x4) < 65 then (some 0) else (if (bt x0 x4) > 90 then (some 0) else (impl_ColNumber.l0 k x0 (wrap64 ((wrap64 ((wrap64 (x3 * 26)) + (((bt x0 x4) - 65) % 256))) + 1)) (wrap64 (x4 + 1))))) else (none)) else (if x3 > 200 then (some 0) else (some x3))
end

def impl_ColNumber.f (k : Nat) (a0 : ByteArray) : Option (Int) := if (a0.size : Int) < 1 then (impl_ColNumber.j0 k a0 true) else (impl_ColNumber.j0 k a0 (decide ((a0.size : Int) > 3)))

theorem impl_ColNumber.mono_l : ∀ k, (∀ y0 y1, LeO (impl_ColNumber.j0 k y0 y1) (impl_ColNumber.j0 (k + 1) y0 y1)) ∧ (∀ y0 y1 y2, LeO (impl_ColNumber.l0 k y0 y1 y2) (impl_ColNumber.l0 (k + 1) y0 y1 y2))
 | 0 => ⟨fun _ _ r h => by simp [impl_ColNumber.j0] at h, fun _ _ _ r h => by simp [impl_ColNumber.l0] at h⟩
 | k + 1 => by
  obtain ⟨ih0, ih1⟩ := impl_ColNumber.mono_l k
  refine ⟨?_, ?_⟩
  ·intro y0 y1
   unfold impl_ColNumber.j0
   repeat' first
   | (with_reducible exact ih0 _ _)
   | (with_reducible exact ih1 _ _ _)
   | (with_reducible exact LeO.refl _)
   | (with_reducible exact LeO.none _)
   | (with_reducible refine LeO.ite ?_ ?_)
   | (with_reducible refine LeO.bind ?_ (fun _ => ?_))
   | exact ih0 _ _
   | exact ih1 _ _ _
   | exact LeO.none _
   | refine LeO.ite ?_ ?_
   | refine LeO.bind ?_ (fun _ => ?_)
  ·intro y0 y1 y2
   unfold impl_ColNumber.l0
   repeat' first
   | (with_reducible exact ih0 _ _)
   | (with_reducible exact ih1 _ _ _)
   | (with_reducible exact LeO.refl _)
   | (with_reducible exact LeO.none _)
   | (with_reducible refine LeO.ite ?_ ?_)
   | (with_reducible refine LeO.bind ?_ (fun _ => ?_))
   | exact ih0 _ _
   | exact ih1 _ _ _
   | exact LeO.none _
   | refine LeO.ite ?_ ?_
   | refine LeO.bind ?_ (fun _ => ?_)

theorem impl_ColNumber.mono : ∀ a0 k, LeO (impl_ColNumber.f k a0) (impl_ColNumber.f (k + 1) a0) := by
 intro a0 k
 obtain ⟨ih0, ih1⟩ := impl_ColNumber.mono_l k
 unfold impl_ColNumber.f
 repeat' first
   | (with_reducible exact ih0 _ _)
   | (with_reducible exact ih1 _ _ _)
   | (with_reducible exact LeO.refl _)
   | (with_reducible exact LeO.none _)
   | (with_reducible refine LeO.ite ?_ ?_)
   | (with_reducible refine LeO.bind ?_ (fun _ => ?_))
   | exact ih0 _ _
   | exact ih1 _ _ _
   | exact LeO.none _
   | refine LeO.ite ?_ ?_
   | refine LeO.bind ?_ (fun _ => ?_)

set_option maxHeartbeats 8000000 in
set_option maxRecDepth 100000 in
theorem impl_ColNumber.calls (k : Nat) (a0 : ByteArray) (r : Int) (w : World) (h : impl_ColNumber.f k a0 = some r) :
  Calls Tryz.prog 122 #[.string a0] w fun e w' => e = .returned (.int .i64 r) ∧ Drawn0 w w' := by
 have H : (if (a0.size : Int) < 1 then (impl_ColNumber.j0 k a0 true) else (impl_ColNumber.j0 k a0 (decide ((a0.size : Int) > 3)))) = some r := h
 clear h
 have HC2 := Aside0.mk H
 clear H
 go_enter Tryz.func122, Tryz.ntmps122
 go_upto_region 1 with (fail)
 go_cut [12] (fun v12 wc => ∃ (kq : Nat) (x12_1 : Bool), v12 = .bool x12_1 ∧ Aside0 (impl_ColNumber.j0 kq a0 x12_1 = some r) ∧ Aside0 (kq ≤ k) ∧ Drawn0 w wc)
 case first =>
  have H := HC2.out
  clear HC2
  by_cases c3 : (a0.size : Int) < 1
  ·rw [if_pos c3] at H
   have c3b0 : decide ((a0.size : Int) < 1) = true := decide_eq_true c3
   have c3b1 : decide (a0.size < 1) = true := decide_eq_true (by omega)
   clear c3
   (first | rw [c3b0] | (simp only [i64_w, i32_w]; rw [c3b0]) | skip)
   have H' := Aside0.mk H
   clear H
   go_wp2
   go_meet
   case rel => exact ⟨_, (true), (by first | rfl | (simp; done) | (simp [*]; done) | (simp; unfold wrap64; omega)), H', ⟨by first | omega | exact Nat.le_refl _⟩, by repeat (first | exact Drawn0.refl _ | apply Drawn0.step)⟩
  ·rw [if_neg c3] at H
   have c3b0 : decide ((a0.size : Int) < 1) = false := decide_eq_false c3
   have c3b1 : decide (a0.size < 1) = false := decide_eq_false (by omega)
   clear c3
   (first | rw [c3b0] | (simp only [i64_w, i32_w]; rw [c3b0]) | skip)
   have H' := Aside0.mk H
   clear H
   go_wp2
   go_meet
   case rel => exact ⟨_, (decide ((a0.size : Int) > 3)), (by first | rfl | (simp; done) | (simp [*]; done) | (simp; unfold wrap64; omega)), H', ⟨by first | omega | exact Nat.le_refl _⟩, by repeat (first | exact Drawn0.refl _ | apply Drawn0.step)⟩
 case rest =>
  clear HC2
  try clear c1
  try clear p2
  try clear c3
  try clear c3b0
  try clear c3b1
  obtain ⟨kq, x12_1, rfl, HA, HJ1, ⟨mc1, rfl⟩⟩ := hcut
  cases kq with
  | zero => exact absurd HA.out (by simp [impl_ColNumber.j0])
  | succ kj1 =>
   have H := HA.out
   clear HA
   simp only [impl_ColNumber.j0] at H
   by_cases c4 : x12_1 = true
   ·subst c4
    have H1 : (some 0) = some r := by rw [if_pos rfl] at H; exact H
    clear H
    have H := H1
    clear H1
    obtain rfl := Option.some.inj H
    go_wp2
    go_ret
    exact ⟨by first | rfl | (simp; done) | (simp [*]; done), by repeat (first | exact Drawn0.refl _ | apply Drawn0.step)⟩
   ·replace c4 := Bool.eq_false_iff.mpr c4
    subst c4
    have H1 : (impl_ColNumber.l0 kj1 a0 0 0) = some r := by rw [if_neg (show ¬ (false = true) by decide)] at H; exact H
    clear H
    have H := H1
    clear H1
    have H' := Aside0.mk H
    clear H
    go_wp2
    go_loopg [3, 4] kj1 (fun kq v3 v4 w' => ∃ (x3_2 : Int) (x4_2 : Int), v3 = .int .i64 x3_2 ∧ v4 = .int .i64 x4_2 ∧ Aside0 (impl_ColNumber.l0 kq a0 x3_2 x4_2 = some r) ∧ Aside0 (kq ≤ kj1) ∧ Drawn0 w w')
    case atStart => exact ⟨(0), (0), (by first | rfl | (simp; done) | (simp [*]; done) | (simp; unfold wrap64; omega)), (by first | rfl | (simp; done) | (simp [*]; done) | (simp; unfold wrap64; omega)), H', ⟨Nat.le_refl _⟩, by repeat (first | exact Drawn0.refl _ | apply Drawn0.step)⟩
    case round =>
     clear H'
     try clear c1
     try clear p2
     try clear c3
     try clear c3b0
     try clear c3b1
     try clear c4
     try clear p2
     obtain ⟨x3_2, x4_2, rfl, rfl, HA, HK2, ⟨m2, rfl⟩⟩ := hrel
     cases gk with
     | zero => exact absurd HA.out (by simp [impl_ColNumber.l0])
     | succ k2 =>
      have H := HA.out
      clear HA
      simp only [impl_ColNumber.l0] at H
      by_cases c5 : x4_2 < (a0.size : Int)
      ·rw [if_pos c5] at H
       have c5b0 : decide (x4_2 < (a0.size : Int)) = true := decide_eq_true c5
       clear c5
       by_cases c6 : 0 ≤ x4_2
       ·rw [if_pos c6] at H
        have c6b0 : decide (0 ≤ x4_2) = true := decide_eq_true c6
        clear c6
        by_cases c8 : (bt a0 x4_2) < 65
        ·rw [if_pos c8] at H
         have c8b0 : decide ((bt a0 x4_2) < 65) = true := decide_eq_true c8
         clear c8
         obtain rfl := Option.some.inj H
         have p7 : 0 ≤ (x4_2 : Int) := of_decide_eq_true (by first | (with_reducible assumption) | assumption)
         have q7 : x4_2 < (a0.size : Int) := of_decide_eq_true (by first | (with_reducible assumption) | assumption)
         have hx7 := bt_at a0 x4_2
         replace p7 := eq_true p7
         replace q7 := eq_true q7
         go_wp2
         go_ret
         exact ⟨by first | rfl | (simp; done) | (simp [*]; done), by repeat (first | exact Drawn0.refl _ | apply Drawn0.step)⟩
        ·rw [if_neg c8] at H
         have c8b0 : decide ((bt a0 x4_2) < 65) = false := decide_eq_false c8
         clear c8
         by_cases c10 : (bt a0 x4_2) > 90
         ·rw [if_pos c10] at H
          have c10b0 : decide (90 < (bt a0 x4_2)) = true := decide_eq_true c10
          clear c10
          obtain rfl := Option.some.inj H
          have p7 : 0 ≤ (x4_2 : Int) := of_decide_eq_true (by first | (with_reducible assumption) | assumption)
          have q7 : x4_2 < (a0.size : Int) := of_decide_eq_true (by first | (with_reducible assumption) | assumption)
          have hx7 := bt_at a0 x4_2
          replace p7 := eq_true p7
          replace q7 := eq_true q7
          have p9 : 0 ≤ (x4_2 : Int) := of_decide_eq_true (by first | (with_reducible assumption) | assumption)
          have q9 : x4_2 < (a0.size : Int) := of_decide_eq_true (by first | (with_reducible assumption) | assumption)
          have hx9 := bt_at a0 x4_2
          replace p9 := eq_true p9
          replace q9 := eq_true q9
          go_wp2
          go_ret
          exact ⟨by first | rfl | (simp; done) | (simp [*]; done), by repeat (first | exact Drawn0.refl _ | apply Drawn0.step)⟩
         ·rw [if_neg c10] at H
          have c10b0 : decide (90 < (bt a0 x4_2)) = false := decide_eq_false c10
          clear c10
          have H' := Aside0.mk H
          clear H
          have p7 : 0 ≤ (x4_2 : Int) := of_decide_eq_true (by first | (with_reducible assumption) | assumption)
          have q7 : x4_2 < (a0.size : Int) := of_decide_eq_true (by first | (with_reducible assumption) | assumption)
          have hx7 := bt_at a0 x4_2
          replace p7 := eq_true p7
          replace q7 := eq_true q7
          have p9 : 0 ≤ (x4_2 : Int) := of_decide_eq_true (by first | (with_reducible assumption) | assumption)
          have q9 : x4_2 < (a0.size : Int) := of_decide_eq_true (by first | (with_reducible assumption) | assumption)
          have hx9 := bt_at a0 x4_2
          replace p9 := eq_true p9
          replace q9 := eq_true q9
          have p11 : 0 ≤ (x4_2 : Int) := of_decide_eq_true (by first | (with_reducible assumption) | assumption)
          have q11 : x4_2 < (a0.size : Int) := of_decide_eq_true (by first | (with_reducible assumption) | assumption)
          have hx11 := bt_at a0 x4_2
          replace p11 := eq_true p11
          replace q11 := eq_true q11
          go_wp2
          go_roundg k2
          case measure => have := HJ1.out; have := HK2.out; omega
          case rel => exact ⟨(wrap64 ((wrap64 ((wrap64 (x3_2 * 26)) + (((bt a0 x4_2) - 65) % 256))) + 1)), (wrap64 (x4_2 + 1)), (by first | rfl | (simp; done) | (simp [*]; done) | (simp; unfold wrap64; omega)), (by first | rfl | (simp; done) | (simp [*]; done) | (simp; unfold wrap64; omega)), H', ⟨by have := HJ1.out; have := HK2.out; omega⟩, by repeat (first | exact Drawn0.refl _ | apply Drawn0.step)⟩
       ·rw [if_neg c6] at H
        exact absurd H (by simp)
      ·rw [if_neg c5] at H
       have c5b0 : decide (x4_2 < (a0.size : Int)) = false := decide_eq_false c5
       clear c5
       by_cases c12 : x3_2 > 200
       ·rw [if_pos c12] at H
        have c12b0 : decide (200 < x3_2) = true := decide_eq_true c12
        clear c12
        obtain rfl := Option.some.inj H
        go_wp2
        go_ret
        exact ⟨by first | rfl | (simp; done) | (simp [*]; done), by repeat (first | exact Drawn0.refl _ | apply Drawn0.step)⟩
       ·rw [if_neg c12] at H
        have c12b0 : decide (200 < x3_2) = false := decide_eq_false c12
        clear c12
        obtain rfl := Option.some.inj H
        go_wp2
        go_ret
        exact ⟨by first | rfl | (simp; done) | (simp [*]; done), by repeat (first | exact Drawn0.refl _ | apply Drawn0.step)⟩



/-! ### impl_ColName: function 140 -/

mutual
def impl_ColName.j0 : Nat → Int → Bool → Option (ByteArray)
 | 0, _, _ => none
 | k + 1, x0, x9 => if x9 = true then (some (⟨#[]⟩ : ByteArray)) else (impl_ColName.l0 k x0 (⟨#[]⟩ : ByteArray))
def impl_ColName.l0 : Nat → Int → ByteArray → Option (ByteArray)
 | 0, _, _ => none
 | k + 1, x0, x3 => if x0 > 0 then ((some (([(wrap64 (65 + (Int.tmod (wrap64 (x0 - 1)) 26))) % 256] : List Int) : List Int)).bind fun y423 => (if (strOfNums y423).size + x3.size ≤ 9223372036854775807 then (impl_ColName.l0 k (wrap64 (Int.tdiv (wrap64 (x0 - 1)) 26)) ((strOfNums y423) ++ x3)) else (none))) else (some x3)
end

def impl_ColName.f (k : Nat) (a0 : Int) : Option (ByteArray) := if a0 < 1 then (impl_ColName.j0 k a0 true) else (impl_ColName.j0 k a0 (decide (a0 > 200)))

theorem impl_ColName.mono_l : ∀ k, (∀ y0 y1, LeO (impl_ColName.j0 k y0 y1) (impl_ColName.j0 (k + 1) y0 y1)) ∧ (∀ y0 y1, LeO (impl_ColName.l0 k y0 y1) (impl_ColName.l0 (k + 1) y0 y1))
 | 0 => ⟨fun _ _ r h => by simp [impl_ColName.j0] at h, fun _ _ r h => by simp [impl_ColName.l0] at h⟩
 | k + 1 => by
  obtain ⟨ih0, ih1⟩ := impl_ColName.mono_l k
  refine ⟨?_, ?_⟩
  ·intro y0 y1
   unfold impl_ColName.j0
   repeat' first
   | (with_reducible exact ih0 _ _)
   | (with_reducible exact ih1 _ _)
   | (with_reducible exact LeO.refl _)
   | (with_reducible exact LeO.none _)
   | (with_reducible refine LeO.ite ?_ ?_)
   | (with_reducible refine LeO.bind ?_ (fun _ => ?_))
   | exact ih0 _ _
   | exact ih1 _ _
   | exact LeO.none _
   | refine LeO.ite ?_ ?_
   | refine LeO.bind ?_ (fun _ => ?_)
  ·intro y0 y1
   unfold impl_ColName.l0
   repeat' first
   | (with_reducible exact ih0 _ _)
   | (with_reducible exact ih1 _ _)
   | (with_reducible exact LeO.refl _)
   | (with_reducible exact LeO.none _)
   | (with_reducible refine LeO.ite ?_ ?_)
   | (with_reducible refine LeO.bind ?_ (fun _ => ?_))
   | exact ih0 _ _
   | exact ih1 _ _
   | exact LeO.none _
   | refine LeO.ite ?_ ?_
   | refine LeO.bind ?_ (fun _ => ?_)

theorem impl_ColName.mono : ∀ a0 k, LeO (impl_ColName.f k a0) (impl_ColName.f (k + 1) a0) := by
 intro a0 k
 obtain ⟨ih0, ih1⟩ := impl_ColName.mono_l k
 unfold impl_ColName.f
 repeat' first
   | (with_reducible exact ih0 _ _)
   | (with_reducible exact ih1 _ _)
   | (with_reducible exact LeO.refl _)
   | (with_reducible exact LeO.none _)
   | (with_reducible refine LeO.ite ?_ ?_)
   | (with_reducible refine LeO.bind ?_ (fun _ => ?_))
   | exact ih0 _ _
   | exact ih1 _ _
   | exact LeO.none _
   | refine LeO.ite ?_ ?_
   | refine LeO.bind ?_ (fun _ => ?_)

set_option maxHeartbeats 8000000 in
set_option maxRecDepth 100000 in
theorem impl_ColName.calls (k : Nat) (a0 : Int) (r : ByteArray) (w : World) (h : impl_ColName.f k a0 = some r) :
  Calls Tryz.prog 140 #[.int .i64 a0] w fun e w' => e = .returned (.string r) ∧ Below w.heap.size w w' := by
 have HB := Aside0.mk (Below.refl w.heap.size w)
 have H : (if a0 < 1 then (impl_ColName.j0 k a0 true) else (impl_ColName.j0 k a0 (decide (a0 > 200)))) = some r := h
 clear h
 have HC2 := Aside0.mk H
 clear H
 go_enter Tryz.func140, Tryz.ntmps140
 go_upto_region 1 with (fail)
 go_cut [9] (fun v9 wc => ∃ (kq : Nat) (x9_1 : Bool), v9 = .bool x9_1 ∧ Aside0 (impl_ColName.j0 kq a0 x9_1 = some r) ∧ Aside0 (kq ≤ k) ∧ Aside0 (Below w.heap.size w wc))
 case first =>
  have H := HC2.out
  clear HC2
  by_cases c3 : a0 < 1
  ·rw [if_pos c3] at H
   have c3b0 : decide (a0 < 1) = true := decide_eq_true c3
   clear c3
   (first | rw [c3b0] | (simp only [i64_w, i32_w]; rw [c3b0]) | skip)
   have H' := Aside0.mk H
   clear H
   go_wp2
   go_meet
   case rel => exact ⟨_, (true), (by first | rfl | (simp; done) | (simp [*]; done) | (simp; unfold wrap64; omega)), H', ⟨by first | omega | exact Nat.le_refl _⟩, ⟨by repeat (first | (with_reducible first | exact HB.out | apply z2q | apply z3q | apply z4q) | exact HB.out)⟩⟩
  ·rw [if_neg c3] at H
   have c3b0 : decide (a0 < 1) = false := decide_eq_false c3
   clear c3
   (first | rw [c3b0] | (simp only [i64_w, i32_w]; rw [c3b0]) | skip)
   have H' := Aside0.mk H
   clear H
   go_wp2
   go_meet
   case rel => exact ⟨_, (decide (a0 > 200)), (by first | rfl | (simp; done) | (simp [*]; done) | (simp; unfold wrap64; omega)), H', ⟨by first | omega | exact Nat.le_refl _⟩, ⟨by repeat (first | (with_reducible first | exact HB.out | apply z2q | apply z3q | apply z4q) | exact HB.out)⟩⟩
 case rest =>
  clear HC2
  try clear c1
  try clear p2
  try clear c3
  try clear c3b0
  obtain ⟨kq, x9_1, rfl, HA, HJ1, HB⟩ := hcut
  cases kq with
  | zero => exact absurd HA.out (by simp [impl_ColName.j0])
  | succ kj1 =>
   have H := HA.out
   clear HA
   simp only [impl_ColName.j0] at H
   by_cases c4 : x9_1 = true
   ·subst c4
    have H1 : (some (⟨#[]⟩ : ByteArray)) = some r := by rw [if_pos rfl] at H; exact H
    clear H
    have H := H1
    clear H1
    obtain rfl := Option.some.inj H
    go_wp2
    go_ret
    exact ⟨by first | rfl | (simp [errW_none, errW_some] <;> rfl) | (simp [*, errW_none, errW_some] <;> rfl), by repeat (first | (with_reducible first | exact HB.out | apply z2q | apply z3q | apply z4q) | exact HB.out)⟩
   ·replace c4 := Bool.eq_false_iff.mpr c4
    subst c4
    have H1 : (impl_ColName.l0 kj1 a0 (⟨#[]⟩ : ByteArray)) = some r := by rw [if_neg (show ¬ (false = true) by decide)] at H; exact H
    clear H
    have H := H1
    clear H1
    have H' := Aside0.mk H
    clear H
    go_wp2
    go_loopg [0, 3] kj1 (fun kq v0 v3 w' => ∃ (x0_2 : Int) (x3_2 : ByteArray), v0 = .int .i64 x0_2 ∧ v3 = .string x3_2 ∧ Aside0 (impl_ColName.l0 kq x0_2 x3_2 = some r) ∧ Aside0 (kq ≤ kj1) ∧ Aside0 (Below w.heap.size w w'))
    case atStart => exact ⟨(a0), ((⟨#[]⟩ : ByteArray)), (by first | rfl | (simp; done) | (simp [*]; done) | (simp; unfold wrap64; omega)), (by first | rfl | (simp; done) | (simp [*]; done) | (simp; unfold wrap64; omega)), H', ⟨Nat.le_refl _⟩, ⟨by repeat (first | (with_reducible first | exact HB.out | apply z2q | apply z3q | apply z4q) | exact HB.out)⟩⟩
    case round =>
     clear H'
     try clear c1
     try clear p2
     try clear c3
     try clear c3b0
     try clear c4
     try clear p2
     obtain ⟨x0_2, x3_2, rfl, rfl, HA, HK2, HB⟩ := hrel
     cases gk with
     | zero => exact absurd HA.out (by simp [impl_ColName.l0])
     | succ k2 =>
      have H := HA.out
      clear HA
      simp only [impl_ColName.l0] at H
      by_cases c5 : x0_2 > 0
      ·rw [if_pos c5] at H
       have c5b0 : decide (0 < x0_2) = true := decide_eq_true c5
       clear c5
       obtain ⟨y423, hy423⟩ : ∃ y_ : List Int, y_ = (([(wrap64 (65 + (Int.tmod (wrap64 (x0_2 - 1)) 26))) % 256] : List Int)) := ⟨_, rfl⟩
       replace H : (if (strOfNums y423).size + x3_2.size ≤ 9223372036854775807 then (impl_ColName.l0 k2 (wrap64 (Int.tdiv (wrap64 (x0_2 - 1)) 26)) ((strOfNums y423) ++ x3_2)) else (none)) = some r := by first | (rw [hy423]; with_reducible exact H) | (have H2_ := (Option.bind_some _ _).symm.trans H; rw [hy423]; with_reducible exact H2_) | (have H2_ := (Option.bind_some _ _).symm.trans H; with_reducible exact H2_) | with_reducible exact H | (rw [hy423]; exact H) | exact H
       have Ny423 := Aside0.mk hy423
       clear hy423
       by_cases c6 : (strOfNums y423).size + x3_2.size ≤ 9223372036854775807
       ·rw [if_pos c6] at H
        have c6b0 := eq_true c6
        have c6b1 : decide ((strOfNums y423).size + x3_2.size ≤ 9223372036854775807) = true := decide_eq_true c6
        try have c6b2 : (9223372036854775807 < (strOfNums y423).size + x3_2.size) = False := eq_false (Nat.not_lt.2 c6)
        have H' := Aside0.mk H
        clear H
        go_wp2_with (first | ((with_reducible refine z17q (N := 18) rfl ?_); refine Kd.R_lit (Kd.int .u8) _ 5 ?hg (N := 18) ?hd (xs := ([(wrap64 (65 + (Int.tmod (wrap64 (x0_2 - 1)) 26))) % 256] : List Int)) (inner := [.int .u8 ((wrap64 (65 + (Int.tmod (wrap64 (x0_2 - 1)) 26))) % 256)]) (ok := fun _ => True) (okp := fun _ => True) ?hr ?hp (fun _ hk => hk) trivial (Below.refl _ _) (Nat.le_refl _) (by simp) ?_; (case hd => rfl); (case hg => rfl); (case hr => first | (go_simp; done) | (go_simp; rfl)); (case hp => exact (Reps.one (show Kd.M (Kd.int .u8) _ _ _ ((wrap64 (65 + (Int.tmod (wrap64 (x0_2 - 1)) 26))) % 256) [.int .u8 ((wrap64 (65 + (Int.tmod (wrap64 (x0_2 - 1)) 26))) % 256)] from rfl) (Reps.none _ _))); intro v424 w7 ho8 hb hg_ hnew_; clear hg_ hnew_; (first | rw [← Ny423.out] at ho8 | (simp only [Int.reduceToNat] at ho8; rw [← Ny423.out] at ho8)); have n0_ := Aside0.mk (Kd.R_lower ho8 (z7q (ibh HB.out))); have n1_ := Aside0.mk (z6q (ibh HB.out) hb); clear HB; have HO425 := n0_; have HB := n1_; clear n0_ n1_; clear hb ho8; have hcv9 := own_string (P := Tryz.prog) Tryz.underlying116 Tryz.underlying5 Tryz.underlying9 (Kd.own_of_R HO425.out)))
        go_roundg k2
        case measure => have := HJ1.out; have := HK2.out; omega
        case rel => exact ⟨(wrap64 (Int.tdiv (wrap64 (x0_2 - 1)) 26)), ((strOfNums y423) ++ x3_2), (by first | rfl | (simp; done) | (simp [*]; done) | (simp; unfold wrap64; omega)), (by first | rfl | (simp; done) | (simp [*]; done) | (simp; unfold wrap64; omega)), H', ⟨by have := HJ1.out; have := HK2.out; omega⟩, ⟨by repeat (first | (with_reducible first | exact HB.out | apply z2q | apply z3q | apply z4q) | exact HB.out)⟩⟩
       ·rw [if_neg c6] at H
        exact absurd H (by simp)
      ·rw [if_neg c5] at H
       have c5b0 : decide (0 < x0_2) = false := decide_eq_false c5
       clear c5
       obtain rfl := Option.some.inj H
       go_wp2
       go_ret
       exact ⟨by first | rfl | (simp [errW_none, errW_some] <;> rfl) | (simp [*, errW_none, errW_some] <;> rfl), by repeat (first | (with_reducible first | exact HB.out | apply z2q | apply z3q | apply z4q) | exact HB.out)⟩



/-! ### impl_RefText: function 123 -/

def impl_RefText.j0 : Nat → ByteArray → Int → Int → Bool → Bool → Option (ByteArray)
 | 0, _, _, _, _, _ => none
 | k + 1, x3, x427000, x427001, x427002, x427003 => (impl_ColName.f k x427001).bind fun t428 => (if x3.size + t428.size ≤ 9223372036854775807 then (if x427002 = true then (if (x3 ++ t428).size + 1 ≤ 9223372036854775807 then ((strconv_Itoa.f x427000).bind fun t429 => (if ((x3 ++ t428) ++ (⟨#[36]⟩ : ByteArray)).size + t429.size ≤ 9223372036854775807 then (some (((x3 ++ t428) ++ (⟨#[36]⟩ : ByteArray)) ++ t429)) else (none))) else (none)) else ((strconv_Itoa.f x427000).bind fun t430 => (if (x3 ++ t428).size + t430.size ≤ 9223372036854775807 then (some ((x3 ++ t428) ++ t430)) else (none)))) else (none))

def impl_RefText.f (k : Nat) (a0_0 : Int) (a0_1 : Int) (a0_2 : Bool) (a0_3 : Bool) : Option (ByteArray) := (impl_GoodRef.f a0_0 a0_1 a0_2 a0_3).bind fun t427 => (if t427 = true then (if a0_3 = true then (impl_RefText.j0 k (⟨#[36]⟩ : ByteArray) a0_0 a0_1 a0_2 a0_3) else (impl_RefText.j0 k (⟨#[]⟩ : ByteArray) a0_0 a0_1 a0_2 a0_3)) else (some (⟨#[]⟩ : ByteArray)))

theorem impl_RefText.mono_l : ∀ k, (∀ y0 y1 y2 y3 y4, LeO (impl_RefText.j0 k y0 y1 y2 y3 y4) (impl_RefText.j0 (k + 1) y0 y1 y2 y3 y4))
 | 0 => fun _ _ _ _ _ r h => by simp [impl_RefText.j0] at h
 | k + 1 => by
  have ih0 := impl_RefText.mono_l k
  ·intro y0 y1 y2 y3 y4
   unfold impl_RefText.j0
   repeat' first
   | (with_reducible exact ih0 _ _ _ _ _)
   | (with_reducible exact impl_ColName.mono _ _)
   | (with_reducible exact LeO.refl _)
   | (with_reducible exact LeO.none _)
   | (with_reducible refine LeO.ite ?_ ?_)
   | (with_reducible refine LeO.bind ?_ (fun _ => ?_))
   | exact ih0 _ _ _ _ _
   | exact impl_ColName.mono _ _
   | exact LeO.none _
   | refine LeO.ite ?_ ?_
   | refine LeO.bind ?_ (fun _ => ?_)

theorem impl_RefText.mono : ∀ a0 a1 a2 a3 k, LeO (impl_RefText.f k a0 a1 a2 a3) (impl_RefText.f (k + 1) a0 a1 a2 a3) := by
 intro a0 a1 a2 a3 k
 have ih0 := impl_RefText.mono_l k
 unfold impl_RefText.f
 repeat' first
   | (with_reducible exact ih0 _ _ _ _ _)
   | (with_reducible exact impl_ColName.mono _ _)
   | (with_reducible exact LeO.refl _)
   | (with_reducible exact LeO.none _)
   | (with_reducible refine LeO.ite ?_ ?_)
   | (with_reducible refine LeO.bind ?_ (fun _ => ?_))
   | exact ih0 _ _ _ _ _
   | exact impl_ColName.mono _ _
   | exact LeO.none _
   | refine LeO.ite ?_ ?_
   | refine LeO.bind ?_ (fun _ => ?_)

set_option maxHeartbeats 8000000 in
set_option maxRecDepth 100000 in
theorem impl_RefText.calls (k : Nat) (a0_0 : Int) (a0_1 : Int) (a0_2 : Bool) (a0_3 : Bool) (r : ByteArray) (w : World) (hT : Tab w) (h : impl_RefText.f k a0_0 a0_1 a0_2 a0_3 = some r) :
  Calls Tryz.prog 123 #[.agg #[.int .i64 a0_0, .int .i64 a0_1, .bool a0_2, .bool a0_3]] w fun e w' => e = .returned (.string r) ∧ Below w.heap.size w w' := by
 have hu47 := Tryz.underlying47
 have HB := Aside0.mk (Below.refl w.heap.size w)
 have H : ((impl_GoodRef.f a0_0 a0_1 a0_2 a0_3).bind fun t427 => (if t427 = true then (if a0_3 = true then (impl_RefText.j0 k (⟨#[36]⟩ : ByteArray) a0_0 a0_1 a0_2 a0_3) else (impl_RefText.j0 k (⟨#[]⟩ : ByteArray) a0_0 a0_1 a0_2 a0_3)) else (some (⟨#[]⟩ : ByteArray)))) = some r := h
 clear h
 replace H := Option.bind_eq_some_iff.mp H
 obtain ⟨t427, A20, H⟩ := H
 replace H : (if t427 = true then (if a0_3 = true then (impl_RefText.j0 k (⟨#[36]⟩ : ByteArray) a0_0 a0_1 a0_2 a0_3) else (impl_RefText.j0 k (⟨#[]⟩ : ByteArray) a0_0 a0_1 a0_2 a0_3)) else (some (⟨#[]⟩ : ByteArray))) = some r := H
 have A2 := Aside0.mk A20
 clear A20
 by_cases c3 : t427 = true
 ·subst c3
  have H1 : (if a0_3 = true then (impl_RefText.j0 k (⟨#[36]⟩ : ByteArray) a0_0 a0_1 a0_2 a0_3) else (impl_RefText.j0 k (⟨#[]⟩ : ByteArray) a0_0 a0_1 a0_2 a0_3)) = some r := by rw [if_pos rfl] at H; exact H
  clear H
  have H := H1
  clear H1
  have HC4 := Aside0.mk H
  clear H
  go_enter Tryz.func123, Tryz.ntmps123
  go_upto_if 8 with (first | ((with_reducible refine z17q (N := 1) rfl ?_); refine z16q ?hg (N := 1) ?hd (cs := #[.int .i64 a0_0, .int .i64 a0_1, .bool a0_2, .bool a0_3]) (t := 47) ?hr ?_; (case hd => rfl); (case hg => rfl); (case hr => first | (go_simp; done) | (go_simp; rfl)); intro gb426 hg w5 hbox hb; have n0_ := Aside0.mk (z6q (ibh HB.out) hb); have n1_ := Aside0.mk (hbox); have n2_ := Aside0.mk ((by rw [hg]; exact (z7q (ibh HB.out)) : w.heap.size ≤ gb426)); have n3_ := Aside0.mk ((by rw [hg]; exact (z7q (ibh HB.out)) : w.heap.size ≤ gb426)); clear HB; have HB := n0_; have BK426 := n1_; have GW426 := n2_; have GE426 := n3_; clear n0_ n1_ n2_ n3_; clear hb hbox hg; obtain ⟨hcz6_0, hcz6_1, hcz6_2, hcz6_3, hfz6_0, hfz6_1, hfz6_2, hfz6_3⟩ := cr4 (w := w5) (g := gb426) BK426.out) | ((with_reducible refine z14q (f := 49) rfl ?_); refine z20q (some 5) rfl rfl Tryz.func49 (by kernel_rfl) rfl #[.agg #[.int .i64 a0_0, .int .i64 a0_1, .bool a0_2, .bool a0_3]] rfl (by (try simp only [map_toArray, map_cons, map_nil]); first | done | rfl | (simp only [length_drop, length_take]; rfl)) ?_; (with_reducible refine (impl_GoodRef.calls a0_0 a0_1 a0_2 a0_3 true _ A2.out).mono ?_); rintro e w7 ⟨rfl, hb⟩; refine ⟨_, rfl, ?_⟩; have n0_ := Aside0.mk (z15q (cy BK426.out) hb); have n1_ := Aside0.mk (z6q (ibh HB.out) hb); clear BK426; clear HB; have BK426 := n0_; have HB := n1_; clear n0_ n1_; (try clear hb); (try clear hb2); (try clear hk); (try clear hi); obtain ⟨hcz8_0, hcz8_1, hcz8_2, hcz8_3, hfz8_0, hfz8_1, hfz8_2, hfz8_3⟩ := cr4 (w := w7) (g := gb426) BK426.out))
  (try simp only [Act.put, setIfInBounds_toArray, set_cons_zero, set_cons_succ])
  go_cut [3] (fun v3 wc => ∃ (kq : Nat) (x3_3 : ByteArray), v3 = .string x3_3 ∧ Aside0 (impl_RefText.j0 kq x3_3 a0_0 a0_1 a0_2 a0_3 = some r) ∧ Aside0 (kq ≤ k) ∧ Aside0 (wc.heap[gb426]? = some (.cells #[.int .i64 a0_0, .int .i64 a0_1, .bool a0_2, .bool a0_3] 47 (0, 0))) ∧ Aside0 (Below w.heap.size w wc))
  case first =>
   have H := HC4.out
   clear HC4
   by_cases c9 : a0_3 = true
   ·subst c9
    have H1 : (impl_RefText.j0 k (⟨#[36]⟩ : ByteArray) a0_0 a0_1 a0_2 true) = some r := by rw [if_pos rfl] at H; exact H
    clear H
    have H := H1
    clear H1
    have H' := Aside0.mk H
    clear H
    go_wp2
    go_meet
    case rel => exact ⟨_, ((⟨#[36]⟩ : ByteArray)), (by first | rfl | (simp; done) | (simp [*]; done) | (simp; unfold wrap64; omega)), H', ⟨by first | omega | exact Nat.le_refl _⟩, ⟨by (with_reducible repeat (first | refine z11q ?_ _ | refine z13q ?_ | refine z10q ?_ _)); exact BK426.out⟩, ⟨by repeat (first | (with_reducible first | exact HB.out | apply z2q | apply z3q | apply z4q | refine z8q ?_ GE426.out) | exact HB.out)⟩⟩
   ·replace c9 := Bool.eq_false_iff.mpr c9
    subst c9
    have H1 : (impl_RefText.j0 k (⟨#[]⟩ : ByteArray) a0_0 a0_1 a0_2 false) = some r := by rw [if_neg (show ¬ (false = true) by decide)] at H; exact H
    clear H
    have H := H1
    clear H1
    have H' := Aside0.mk H
    clear H
    go_wp2
    go_meet
    case rel => exact ⟨_, ((⟨#[]⟩ : ByteArray)), (by first | rfl | (simp; done) | (simp [*]; done) | (simp; unfold wrap64; omega)), H', ⟨by first | omega | exact Nat.le_refl _⟩, ⟨by (with_reducible repeat (first | refine z11q ?_ _ | refine z13q ?_ | refine z10q ?_ _)); exact BK426.out⟩, ⟨by repeat (first | (with_reducible first | exact HB.out | apply z2q | apply z3q | apply z4q | refine z8q ?_ GE426.out) | exact HB.out)⟩⟩
  case rest =>
   clear HC4
   try clear c1
   try clear p2
   try clear c3
   try clear c4
   try clear c9
   try clear hcz6_0
   try clear hcz6_1
   try clear hcz6_2
   try clear hcz6_3
   try clear hcz8_0
   try clear hcz8_1
   try clear hcz8_2
   try clear hcz8_3
   try clear hfz6_0
   try clear hfz6_1
   try clear hfz6_2
   try clear hfz6_3
   try clear hfz8_0
   try clear hfz8_1
   try clear hfz8_2
   try clear hfz8_3
   obtain ⟨kq, x3_3, rfl, HA, HJ3, BK426, HB⟩ := hcut
   cases kq with
   | zero => exact absurd HA.out (by simp [impl_RefText.j0])
   | succ kj3 =>
    have H := HA.out
    clear HA
    simp only [impl_RefText.j0] at H
    replace H := Option.bind_eq_some_iff.mp H
    obtain ⟨t428, A100, H⟩ := H
    replace H : (if x3_3.size + t428.size ≤ 9223372036854775807 then (if a0_2 = true then (if (x3_3 ++ t428).size + 1 ≤ 9223372036854775807 then ((strconv_Itoa.f a0_0).bind fun t429 => (if ((x3_3 ++ t428) ++ (⟨#[36]⟩ : ByteArray)).size + t429.size ≤ 9223372036854775807 then (some (((x3_3 ++ t428) ++ (⟨#[36]⟩ : ByteArray)) ++ t429)) else (none))) else (none)) else ((strconv_Itoa.f a0_0).bind fun t430 => (if (x3_3 ++ t428).size + t430.size ≤ 9223372036854775807 then (some ((x3_3 ++ t428) ++ t430)) else (none)))) else (none)) = some r := H
    have A10 := Aside0.mk A100
    clear A100
    by_cases c11 : x3_3.size + t428.size ≤ 9223372036854775807
    ·rw [if_pos c11] at H
     have c11b0 := eq_true c11
     have c11b1 : decide (x3_3.size + t428.size ≤ 9223372036854775807) = true := decide_eq_true c11
     try have c11b2 : (9223372036854775807 < x3_3.size + t428.size) = False := eq_false (Nat.not_lt.2 c11)
     by_cases c12 : a0_2 = true
     ·subst c12
      have H1 : (if (x3_3 ++ t428).size + 1 ≤ 9223372036854775807 then ((strconv_Itoa.f a0_0).bind fun t429 => (if ((x3_3 ++ t428) ++ (⟨#[36]⟩ : ByteArray)).size + t429.size ≤ 9223372036854775807 then (some (((x3_3 ++ t428) ++ (⟨#[36]⟩ : ByteArray)) ++ t429)) else (none))) else (none)) = some r := by rw [if_pos rfl] at H; exact H
      clear H
      have H := H1
      clear H1
      by_cases c13 : (x3_3 ++ t428).size + 1 ≤ 9223372036854775807
      ·rw [if_pos c13] at H
       have c13b0 := eq_true c13
       have c13b1 : decide ((x3_3 ++ t428).size + 1 ≤ 9223372036854775807) = true := decide_eq_true c13
       try have c13b2 : (9223372036854775807 < (x3_3 ++ t428).size + 1) = False := eq_false (Nat.not_lt.2 c13)
       try have c13b28 : (9223372036854775807 < (x3_3.size + t428.size) + 1) = False := eq_false (Nat.not_lt.2 (by have h8_ := c13; simp only [ByteArray.size_append, ByteArray.size_extract, Nat.min_self, Nat.sub_zero] at h8_; exact h8_))
       replace H := Option.bind_eq_some_iff.mp H
       obtain ⟨t429, A140, H⟩ := H
       replace H : (if ((x3_3 ++ t428) ++ (⟨#[36]⟩ : ByteArray)).size + t429.size ≤ 9223372036854775807 then (some (((x3_3 ++ t428) ++ (⟨#[36]⟩ : ByteArray)) ++ t429)) else (none)) = some r := H
       have A14 := Aside0.mk A140
       clear A140
       by_cases c15 : ((x3_3 ++ t428) ++ (⟨#[36]⟩ : ByteArray)).size + t429.size ≤ 9223372036854775807
       ·rw [if_pos c15] at H
        have c15b0 := eq_true c15
        have c15b1 : decide (((x3_3 ++ t428) ++ (⟨#[36]⟩ : ByteArray)).size + t429.size ≤ 9223372036854775807) = true := decide_eq_true c15
        try have c15b2 : (9223372036854775807 < ((x3_3 ++ t428) ++ (⟨#[36]⟩ : ByteArray)).size + t429.size) = False := eq_false (Nat.not_lt.2 c15)
        try have c15b28 : (9223372036854775807 < ((x3_3.size + t428.size) + 1) + t429.size) = False := eq_false (Nat.not_lt.2 (by have h8_ := c15; simp only [ByteArray.size_append, ByteArray.size_extract, Nat.min_self, Nat.sub_zero] at h8_; exact h8_))
        obtain rfl := Option.some.inj H
        obtain ⟨hcz16_0, hcz16_1, hcz16_2, hcz16_3, hfz16_0, hfz16_1, hfz16_2, hfz16_3⟩ := cr4 (w := wc) (g := gb426) BK426.out
        go_wp2_with (first | ((with_reducible refine z14q (f := 140) rfl ?_); refine z20q (some 12) rfl rfl Tryz.func140 (by kernel_rfl) rfl #[.int .i64 a0_1] rfl (by (try simp only [map_toArray, map_cons, map_nil]); first | done | rfl | (simp only [length_drop, length_take]; rfl)) ?_; (with_reducible refine (impl_ColName.calls kj3 a0_1 t428 _ A10.out).mono ?_); rintro e w17 ⟨rfl, hb⟩; refine ⟨_, rfl, ?_⟩; have n0_ := Aside0.mk (z15q (cy BK426.out) hb); have n1_ := Aside0.mk (z6q (ibh HB.out) hb); clear BK426; clear HB; have BK426 := n0_; have HB := n1_; clear n0_ n1_; (try clear hb); (try clear hb2); (try clear hk); (try clear hi); obtain ⟨hcz18_0, hcz18_1, hcz18_2, hcz18_3, hfz18_0, hfz18_1, hfz18_2, hfz18_3⟩ := cr4 (w := w17) (g := gb426) BK426.out) | ((with_reducible refine z14q (f := 101) rfl ?_); refine z20q (some 21) rfl rfl Tryz.func101 (by kernel_rfl) rfl #[.int .i64 a0_0] rfl (by (try simp only [map_toArray, map_cons, map_nil]); first | done | rfl | (simp only [length_drop, length_take]; rfl)) ?_; (with_reducible refine (strconv_Itoa.calls a0_0 t429 _ (hT.below ib) A14.out).mono ?_); rintro e w19 ⟨rfl, hb⟩; refine ⟨_, rfl, ?_⟩; have n0_ := Aside0.mk (z15q (cy BK426.out) hb); have n1_ := Aside0.mk (z6q (ibh HB.out) hb); clear BK426; clear HB; have BK426 := n0_; have HB := n1_; clear n0_ n1_; (try clear hb); (try clear hb2); (try clear hk); (try clear hi)))
        go_ret
        exact ⟨by first | rfl | (simp [errW_none, errW_some] <;> rfl) | (simp [*, errW_none, errW_some] <;> rfl), by repeat (first | (with_reducible first | exact HB.out | apply z2q | apply z3q | apply z4q | refine z8q ?_ GE426.out) | exact HB.out)⟩
       ·rw [if_neg c15] at H
        exact absurd H (by simp)
      ·rw [if_neg c13] at H
       exact absurd H (by simp)
     ·replace c12 := Bool.eq_false_iff.mpr c12
      subst c12
      have H1 : ((strconv_Itoa.f a0_0).bind fun t430 => (if (x3_3 ++ t428).size + t430.size ≤ 9223372036854775807 then (some ((x3_3 ++ t428) ++ t430)) else (none))) = some r := by rw [if_neg (show ¬ (false = true) by decide)] at H; exact H
      clear H
      have H := H1
      clear H1
      replace H := Option.bind_eq_some_iff.mp H
      obtain ⟨t430, A200, H⟩ := H
      replace H : (if (x3_3 ++ t428).size + t430.size ≤ 9223372036854775807 then (some ((x3_3 ++ t428) ++ t430)) else (none)) = some r := H
      have A20 := Aside0.mk A200
      clear A200
      by_cases c21 : (x3_3 ++ t428).size + t430.size ≤ 9223372036854775807
      ·rw [if_pos c21] at H
       have c21b0 := eq_true c21
       have c21b1 : decide ((x3_3 ++ t428).size + t430.size ≤ 9223372036854775807) = true := decide_eq_true c21
       try have c21b2 : (9223372036854775807 < (x3_3 ++ t428).size + t430.size) = False := eq_false (Nat.not_lt.2 c21)
       try have c21b28 : (9223372036854775807 < (x3_3.size + t428.size) + t430.size) = False := eq_false (Nat.not_lt.2 (by have h8_ := c21; simp only [ByteArray.size_append, ByteArray.size_extract, Nat.min_self, Nat.sub_zero] at h8_; exact h8_))
       obtain rfl := Option.some.inj H
       obtain ⟨hcz22_0, hcz22_1, hcz22_2, hcz22_3, hfz22_0, hfz22_1, hfz22_2, hfz22_3⟩ := cr4 (w := wc) (g := gb426) BK426.out
       go_wp2_with (first | ((with_reducible refine z14q (f := 140) rfl ?_); refine z20q (some 12) rfl rfl Tryz.func140 (by kernel_rfl) rfl #[.int .i64 a0_1] rfl (by (try simp only [map_toArray, map_cons, map_nil]); first | done | rfl | (simp only [length_drop, length_take]; rfl)) ?_; (with_reducible refine (impl_ColName.calls kj3 a0_1 t428 _ A10.out).mono ?_); rintro e w23 ⟨rfl, hb⟩; refine ⟨_, rfl, ?_⟩; have n0_ := Aside0.mk (z15q (cy BK426.out) hb); have n1_ := Aside0.mk (z6q (ibh HB.out) hb); clear BK426; clear HB; have BK426 := n0_; have HB := n1_; clear n0_ n1_; (try clear hb); (try clear hb2); (try clear hk); (try clear hi); obtain ⟨hcz24_0, hcz24_1, hcz24_2, hcz24_3, hfz24_0, hfz24_1, hfz24_2, hfz24_3⟩ := cr4 (w := w23) (g := gb426) BK426.out) | ((with_reducible refine z14q (f := 101) rfl ?_); refine z20q (some 21) rfl rfl Tryz.func101 (by kernel_rfl) rfl #[.int .i64 a0_0] rfl (by (try simp only [map_toArray, map_cons, map_nil]); first | done | rfl | (simp only [length_drop, length_take]; rfl)) ?_; (with_reducible refine (strconv_Itoa.calls a0_0 t430 _ (hT.below ib) A20.out).mono ?_); rintro e w25 ⟨rfl, hb⟩; refine ⟨_, rfl, ?_⟩; have n0_ := Aside0.mk (z15q (cy BK426.out) hb); have n1_ := Aside0.mk (z6q (ibh HB.out) hb); clear BK426; clear HB; have BK426 := n0_; have HB := n1_; clear n0_ n1_; (try clear hb); (try clear hb2); (try clear hk); (try clear hi)))
       go_ret
       exact ⟨by first | rfl | (simp [errW_none, errW_some] <;> rfl) | (simp [*, errW_none, errW_some] <;> rfl), by repeat (first | (with_reducible first | exact HB.out | apply z2q | apply z3q | apply z4q | refine z8q ?_ GE426.out) | exact HB.out)⟩
      ·rw [if_neg c21] at H
       exact absurd H (by simp)
    ·rw [if_neg c11] at H
     exact absurd H (by simp)
 ·replace c3 := Bool.eq_false_iff.mpr c3
  subst c3
  have H1 : (some (⟨#[]⟩ : ByteArray)) = some r := by rw [if_neg (show ¬ (false = true) by decide)] at H; exact H
  clear H
  have H := H1
  clear H1
  obtain rfl := Option.some.inj H
  go_enter Tryz.func123, Tryz.ntmps123
  go_wp2_with (first | ((with_reducible refine z17q (N := 1) rfl ?_); refine z16q ?hg (N := 1) ?hd (cs := #[.int .i64 a0_0, .int .i64 a0_1, .bool a0_2, .bool a0_3]) (t := 47) ?hr ?_; (case hd => rfl); (case hg => rfl); (case hr => first | (go_simp; done) | (go_simp; rfl)); intro gb426 hg w26 hbox hb; have n0_ := Aside0.mk (z6q (ibh HB.out) hb); have n1_ := Aside0.mk (hbox); have n2_ := Aside0.mk ((by rw [hg]; exact (z7q (ibh HB.out)) : w.heap.size ≤ gb426)); have n3_ := Aside0.mk ((by rw [hg]; exact (z7q (ibh HB.out)) : w.heap.size ≤ gb426)); clear HB; have HB := n0_; have BK426 := n1_; have GW426 := n2_; have GE426 := n3_; clear n0_ n1_ n2_ n3_; clear hb hbox hg; obtain ⟨hcz27_0, hcz27_1, hcz27_2, hcz27_3, hfz27_0, hfz27_1, hfz27_2, hfz27_3⟩ := cr4 (w := w26) (g := gb426) BK426.out) | ((with_reducible refine z14q (f := 49) rfl ?_); refine z20q (some 5) rfl rfl Tryz.func49 (by kernel_rfl) rfl #[.agg #[.int .i64 a0_0, .int .i64 a0_1, .bool a0_2, .bool a0_3]] rfl (by (try simp only [map_toArray, map_cons, map_nil]); first | done | rfl | (simp only [length_drop, length_take]; rfl)) ?_; (with_reducible refine (impl_GoodRef.calls a0_0 a0_1 a0_2 a0_3 false _ A2.out).mono ?_); rintro e w28 ⟨rfl, hb⟩; refine ⟨_, rfl, ?_⟩; have n0_ := Aside0.mk (z15q (cy BK426.out) hb); have n1_ := Aside0.mk (z6q (ibh HB.out) hb); clear BK426; clear HB; have BK426 := n0_; have HB := n1_; clear n0_ n1_; (try clear hb); (try clear hb2); (try clear hk); (try clear hi)))
  go_ret
  exact ⟨by first | rfl | (simp [errW_none, errW_some] <;> rfl) | (simp [*, errW_none, errW_some] <;> rfl), by repeat (first | (with_reducible first | exact HB.out | apply z2q | apply z3q | apply z4q | refine z8q ?_ GE426.out) | exact HB.out)⟩



/-! ### impl_ReadRef: function 107 -/

mutual
def impl_ReadRef.j0 : Nat → ByteArray → ByteArray → Int → Int → Bool → Bool → Option (Int × Int × Bool × Bool × Bool)
 | 0, _, _, _, _, _, _ => none
 | k + 1, x0, x5, x433000, x433001, x433002, x433003 => impl_ReadRef.l0 k x0 x5 0 x433000 x433001 x433002 x433003
def impl_ReadRef.j2 : Nat → ByteArray → ByteArray → Int → Int → Int → Bool → Bool → Option (Int × Int × Bool × Bool × Bool)
 | 0, _, _, _, _, _, _, _ => none
 | k + 1, x0, x5, x6, x433000, x433001, x433002, x433003 => if 0 ≤ x6 then (if x6 ≤ (x5.size : Int) then ((impl_ColNumber.f k (x5.extract 0 (x6 : Int).toNat)).bind fun t434 => ((strings_HasPrefix.f (x5.extract (x6 : Int).toNat x5.size) (⟨#[36]⟩ : ByteArray)).bind fun t435 => (if t435 = true then (if 1 ≤ ((x5.extract (x6 : Int).toNat x5.size).size : Int) then (impl_ReadRef.j3 k x0 ((x5.extract (x6 : Int).toNat x5.size).extract 1 (x5.extract (x6 : Int).toNat x5.size).size) x433000 t434 true x433003) else (none)) else (impl_ReadRef.j3 k x0 (x5.extract (x6 : Int).toNat x5.size) x433000 t434 x433002 x433003)))) else (none)) else (none)
def impl_ReadRef.j3 : Nat → ByteArray → ByteArray → Int → Int → Bool → Bool → Option (Int × Int × Bool × Bool × Bool)
 | 0, _, _, _, _, _, _ => none
 | k + 1, x0, x5, x433000, x433001, x433002, x433003 => (strconv_Atoi.f x5).bind fun bt436 => ((impl_GoodRef.f bt436.1 x433001 x433002 x433003).bind fun t438 => (if t438 = true then ((impl_RefText.f k bt436.1 x433001 x433002 x433003).bind fun t439 => (if t439.toList = x0.toList then (some (bt436.1, x433001, x433002, x433003, true)) else (some (0, 0, false, false, false)))) else (some (0, 0, false, false, false))))
def impl_ReadRef.l0 : Nat → ByteArray → ByteArray → Int → Int → Int → Bool → Bool → Option (Int × Int × Bool × Bool × Bool)
 | 0, _, _, _, _, _, _, _ => none
 | k + 1, x0, x5, x6, x433000, x433001, x433002, x433003 => if x6 < (x5.size : Int) then (if 0 ≤ x6 then (if (bt x5 x6) ≥ 65 then (if (bt x5 x6) ≤ 90 then (impl_ReadRef.l0 k x0 x5 (wrap64 (x6 + 1)) x433000 x433001 x433002 x433003) else (impl_ReadRef.j2 k x0 x5 x6 x433000 x433001 x433002 x433003)) else (impl_ReadRef.j2 k x0 x5 x6 x433000 x433001 x433002 x433003)) else (none)) else (impl_ReadRef.j2 k x0 x5 x6 x433000 x433001 x433002 x433003)
end

def impl_ReadRef.f (k : Nat) (a0 : ByteArray) : Option (Int × Int × Bool × Bool × Bool) := if (a0.size : Int) > 12 then (some (0, 0, false, false, false)) else ((strings_HasPrefix.f a0 (⟨#[36]⟩ : ByteArray)).bind fun t433 => (if t433 = true then (if 1 ≤ (a0.size : Int) then (impl_ReadRef.j0 k a0 (a0.extract 1 a0.size) 0 0 false true) else (none)) else (impl_ReadRef.j0 k a0 a0 0 0 false false)))

theorem impl_ReadRef.mono_l : ∀ k, (∀ y0 y1 y2 y3 y4 y5, LeO (impl_ReadRef.j0 k y0 y1 y2 y3 y4 y5) (impl_ReadRef.j0 (k + 1) y0 y1 y2 y3 y4 y5)) ∧ (∀ y0 y1 y2 y3 y4 y5 y6, LeO (impl_ReadRef.j2 k y0 y1 y2 y3 y4 y5 y6) (impl_ReadRef.j2 (k + 1) y0 y1 y2 y3 y4 y5 y6)) ∧ (∀ y0 y1 y2 y3 y4 y5, LeO (impl_ReadRef.j3 k y0 y1 y2 y3 y4 y5) (impl_ReadRef.j3 (k + 1) y0 y1 y2 y3 y4 y5)) ∧ (∀ y0 y1 y2 y3 y4 y5 y6, LeO (impl_ReadRef.l0 k y0 y1 y2 y3 y4 y5 y6) (impl_ReadRef.l0 (k + 1) y0 y1 y2 y3 y4 y5 y6))
 | 0 => ⟨fun _ _ _ _ _ _ r h => by simp [impl_ReadRef.j0] at h, fun _ _ _ _ _ _ _ r h => by simp [impl_ReadRef.j2] at h, fun _ _ _ _ _ _ r h => by simp [impl_ReadRef.j3] at h, fun _ _ _ _ _ _ _ r h => by simp [impl_ReadRef.l0] at h⟩
 | k + 1 => by
  obtain ⟨ih0, ih1, ih2, ih3⟩ := impl_ReadRef.mono_l k
  refine ⟨?_, ?_, ?_, ?_⟩
  ·intro y0 y1 y2 y3 y4 y5
   unfold impl_ReadRef.j0
   repeat' first
   | (with_reducible exact ih0 _ _ _ _ _ _)
   | (with_reducible exact ih1 _ _ _ _ _ _ _)
   | (with_reducible exact ih2 _ _ _ _ _ _)
   | (with_reducible exact ih3 _ _ _ _ _ _ _)
   | (with_reducible exact impl_ColNumber.mono _ _)
   | (with_reducible exact impl_RefText.mono _ _ _ _ _)
   | (with_reducible exact LeO.refl _)
   | (with_reducible exact LeO.none _)
   | (with_reducible refine LeO.ite ?_ ?_)
   | (with_reducible refine LeO.bind ?_ (fun _ => ?_))
   | exact ih0 _ _ _ _ _ _
   | exact ih1 _ _ _ _ _ _ _
   | exact ih2 _ _ _ _ _ _
   | exact ih3 _ _ _ _ _ _ _
   | exact impl_ColNumber.mono _ _
   | exact impl_RefText.mono _ _ _ _ _
   | exact LeO.none _
   | refine LeO.ite ?_ ?_
   | refine LeO.bind ?_ (fun _ => ?_)
  ·intro y0 y1 y2 y3 y4 y5 y6
   unfold impl_ReadRef.j2
   repeat' first
   | (with_reducible exact ih0 _ _ _ _ _ _)
   | (with_reducible exact ih1 _ _ _ _ _ _ _)
   | (with_reducible exact ih2 _ _ _ _ _ _)
   | (with_reducible exact ih3 _ _ _ _ _ _ _)
   | (with_reducible exact impl_ColNumber.mono _ _)
   | (with_reducible exact impl_RefText.mono _ _ _ _ _)
   | (with_reducible exact LeO.refl _)
   | (with_reducible exact LeO.none _)
   | (with_reducible refine LeO.ite ?_ ?_)
   | (with_reducible refine LeO.bind ?_ (fun _ => ?_))
   | exact ih0 _ _ _ _ _ _
   | exact ih1 _ _ _ _ _ _ _
   | exact ih2 _ _ _ _ _ _
   | exact ih3 _ _ _ _ _ _ _
   | exact impl_ColNumber.mono _ _
   | exact impl_RefText.mono _ _ _ _ _
   | exact LeO.none _
   | refine LeO.ite ?_ ?_
   | refine LeO.bind ?_ (fun _ => ?_)
  ·intro y0 y1 y2 y3 y4 y5
   unfold impl_ReadRef.j3
   repeat' first
   | (with_reducible exact ih0 _ _ _ _ _ _)
   | (with_reducible exact ih1 _ _ _ _ _ _ _)
   | (with_reducible exact ih2 _ _ _ _ _ _)
   | (with_reducible exact ih3 _ _ _ _ _ _ _)
   | (with_reducible exact impl_ColNumber.mono _ _)
   | (with_reducible exact impl_RefText.mono _ _ _ _ _)
   | (with_reducible exact LeO.refl _)
   | (with_reducible exact LeO.none _)
   | (with_reducible refine LeO.ite ?_ ?_)
   | (with_reducible refine LeO.bind ?_ (fun _ => ?_))
   | exact ih0 _ _ _ _ _ _
   | exact ih1 _ _ _ _ _ _ _
   | exact ih2 _ _ _ _ _ _
   | exact ih3 _ _ _ _ _ _ _
   | exact impl_ColNumber.mono _ _
   | exact impl_RefText.mono _ _ _ _ _
   | exact LeO.none _
   | refine LeO.ite ?_ ?_
   | refine LeO.bind ?_ (fun _ => ?_)
  ·intro y0 y1 y2 y3 y4 y5 y6
   unfold impl_ReadRef.l0
   repeat' first
   | (with_reducible exact ih0 _ _ _ _ _ _)
   | (with_reducible exact ih1 _ _ _ _ _ _ _)
   | (with_reducible exact ih2 _ _ _ _ _ _)
   | (with_reducible exact ih3 _ _ _ _ _ _ _)
   | (with_reducible exact impl_ColNumber.mono _ _)
   | (with_reducible exact impl_RefText.mono _ _ _ _ _)
   | (with_reducible exact LeO.refl _)
   | (with_reducible exact LeO.none _)
   | (with_reducible refine LeO.ite ?_ ?_)
   | (with_reducible refine LeO.bind ?_ (fun _ => ?_))
   | exact ih0 _ _ _ _ _ _
   | exact ih1 _ _ _ _ _ _ _
   | exact ih2 _ _ _ _ _ _
   | exact ih3 _ _ _ _ _ _ _
   | exact impl_ColNumber.mono _ _
   | exact impl_RefText.mono _ _ _ _ _
   | exact LeO.none _
   | refine LeO.ite ?_ ?_
   | refine LeO.bind ?_ (fun _ => ?_)

theorem impl_ReadRef.mono : ∀ a0 k, LeO (impl_ReadRef.f k a0) (impl_ReadRef.f (k + 1) a0) := by
 intro a0 k
 obtain ⟨ih0, ih1, ih2, ih3⟩ := impl_ReadRef.mono_l k
 unfold impl_ReadRef.f
 repeat' first
   | (with_reducible exact ih0 _ _ _ _ _ _)
   | (with_reducible exact ih1 _ _ _ _ _ _ _)
   | (with_reducible exact ih2 _ _ _ _ _ _)
   | (with_reducible exact ih3 _ _ _ _ _ _ _)
   | (with_reducible exact impl_ColNumber.mono _ _)
   | (with_reducible exact impl_RefText.mono _ _ _ _ _)
   | (with_reducible exact LeO.refl _)
   | (with_reducible exact LeO.none _)
   | (with_reducible refine LeO.ite ?_ ?_)
   | (with_reducible refine LeO.bind ?_ (fun _ => ?_))
   | exact ih0 _ _ _ _ _ _
   | exact ih1 _ _ _ _ _ _ _
   | exact ih2 _ _ _ _ _ _
   | exact ih3 _ _ _ _ _ _ _
   | exact impl_ColNumber.mono _ _
   | exact impl_RefText.mono _ _ _ _ _
   | exact LeO.none _
   | refine LeO.ite ?_ ?_
   | refine LeO.bind ?_ (fun _ => ?_)

set_option maxHeartbeats 8000000 in
set_option maxRecDepth 100000 in
theorem impl_ReadRef.calls_p1 (k : Nat) (a0 : ByteArray) (r1 : Int) (r2 : Int) (r3 : Bool) (r4 : Bool) (r5 : Bool) (w : World) (hT : Tab w) (c2 : (a0.size : Int) > 12) (H : (some (0, 0, false, false, false)) = some (r1, r2, r3, r4, r5)) :
  Calls Tryz.prog 107 #[.string a0] w fun e w' => e = .returned (.tuple #[.agg #[.int .i64 r1, .int .i64 r2, .bool r3, .bool r4], .bool r5]) ∧ Below w.heap.size w w' := by
 have hu47 := Tryz.underlying47
 have HB := Aside0.mk (Below.refl w.heap.size w)
 have c2b0 : decide (12 < (a0.size : Int)) = true := decide_eq_true c2
 have c2b1 : decide (12 < a0.size) = true := decide_eq_true (by omega)
 clear c2
 simp only [Option.some.injEq, Prod.mk.injEq] at H
 obtain ⟨rfl, rfl, rfl, rfl, rfl⟩ := H
 go_enter Tryz.func107, Tryz.ntmps107
 go_wp2_with (first | ((with_reducible refine z17q (N := 2) rfl ?_); refine z16q ?hg (N := 2) ?hd (cs := #[.int .i64 0, .int .i64 0, .bool false, .bool false]) (t := 47) ?hr ?_; (case hd => rfl); (case hg => rfl); (case hr => first | (go_simp; done) | (go_simp; rfl)); intro gb431 hg w3 hbox hb; have n0_ := Aside0.mk (z6q (ibh HB.out) hb); have n1_ := Aside0.mk (hbox); have n2_ := Aside0.mk ((by rw [hg]; exact (z7q (ibh HB.out)) : w.heap.size ≤ gb431)); have n3_ := Aside0.mk ((by rw [hg]; exact (z7q (ibh HB.out)) : w.heap.size ≤ gb431)); clear HB; have HB := n0_; have BK431 := n1_; have GW431 := n2_; have GE431 := n3_; clear n0_ n1_ n2_ n3_; clear hb hbox hg; obtain ⟨hcz4_0, hcz4_1, hcz4_2, hcz4_3, hfz4_0, hfz4_1, hfz4_2, hfz4_3⟩ := cr4 (w := w3) (g := gb431) BK431.out))
 refine bodyPost_ret (results_ct rfl _ _ gb431 47 #[.int .i64 0, .int .i64 0, .bool false, .bool false] (0, 0) _ rfl (by refine cz ?_; refine z9q (cs := #[.int .i64 0, .int .i64 0, .bool false, .bool false]) ?_ 3 _ rfl; refine cz ?_; refine z9q (cs := #[.int .i64 0, .int .i64 0, .bool false, .bool false]) ?_ 2 _ rfl; refine cz ?_; refine z9q (cs := #[.int .i64 0, .int .i64 0, .bool false, .bool false]) ?_ 1 _ rfl; refine cz ?_; refine z9q (cs := #[.int .i64 0, .int .i64 0, .bool false, .bool false]) ?_ 0 _ rfl; exact cy BK431.out) Tryz.underlying47 rfl (by kernel_rfl)) rfl ?_
 exact ⟨by first | rfl | (simp [errW_none, errW_some] <;> rfl) | (simp [*, errW_none, errW_some] <;> rfl), by repeat (first | (with_reducible first | exact HB.out | apply z2q | apply z3q | apply z4q | refine z8q ?_ GE431.out) | exact HB.out)⟩

end Go.Proofs.YtegdpgpbdcediaaGreatDoor.PFnExactGoodFormula
