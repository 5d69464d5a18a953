/- The row of FnExactWithout: for every input the law returns true and the input reads as it did; on the contract of the law's function and on the plain law of the text YtojfkjggpdlngaaPureFnExactWithout. No further condition. -/
import Derived.Test.YtojfkjggpdlngaaRows
import Derived.Test.YtojfkjggpdlngaaMFnExactWithouta10
import Derived.Test.YtojfkjggpdlngaaPureFnExactWithout
import Derived.WalkKit
import Derived.ProofKit
import Derived.OpenShut
import Derived.ShutString
import Derived.ChangeOld
import Derived.Below
import Derived.Carry
import Derived.SizedLaws
namespace Go.Proofs.Ytojfkjggpdlngaa.fnExactWithout
open Go.ChangeShapes Go.WideShapes Go.ChangeAt Go.RowKit Go.Proofs.YtojfkjggpdlngaaW.PrintWords Go.Proofs.Ytojfkjggpdlngaa.PFnExactWithout
open Go.ChangeMaps (open_string shut_string)
set_option linter.unusedVariables false
theorem own : ownKnob Try.prog.godebug = none := by kernel_rfl
theorem laidOut : laidOutB Try.prog = true := by kernel_rfl
theorem list4 {l : List Value} (h : l.length = 4) : ∃ c0 c1 c2 c3, l = [c0, c1, c2, c3] := by
  match l, h with
  | [c0, c1, c2, c3], _ => exact ⟨c0, c1, c2, c3, rfl⟩
theorem list8 {l : List Value} (h : l.length = 8) : ∃ c0 c1 c2 c3 c4 c5 c6 c7, l = [c0, c1, c2, c3, c4, c5, c6, c7] := by
  match l, h with
  | [c0, c1, c2, c3, c4, c5, c6, c7], _ => exact ⟨c0, c1, c2, c3, c4, c5, c6, c7, rfl⟩
theorem cells52 {H : Type} {enc : TypeId × Value → H} {W : World} {sp : Nat → Bool} {fuel : Nat} {cs : List Value} {x : DataW H × List MemPlace} (h : DataW.trod enc Try.prog W 0 sp true fuel 52 cs = some x) :
    ∃ (a_0 : Int) (a_1 : Int) (a_2 : Bool) (a_3 : Bool), cs = [.int .i64 a_0, .int .i64 a_1, .bool a_2, .bool a_3] ∧ (Lit.int .i64 a_0).wf = true ∧ (Lit.int .i64 a_1).wf = true := by
  obtain ⟨xs, n, _, rfl, hl, hlen, hf⟩ := DataW.trod_struct Try.underlying52 h
  have hc : Try.prog.cellsOf 52 = 4 := by kernel_rfl
  rw [hc] at hl
  obtain ⟨y0, y1, y2, y3, rfl⟩ := list4 hl
  replace hlen : xs.length = 4 := hlen
  have k0 : Try.prog.cellsOf 3 = 1 := by kernel_rfl
  have g0 := hf 0 _ rfl
  rw [List.getElem?_eq_getElem (by omega)] at g0
  replace g0 : DataW.trod enc Try.prog W 0 sp true n 3 (([y0, y1, y2, y3].drop 0).take (Try.prog.cellsOf 3)) = some _ := g0
  rw [k0] at g0
  replace g0 : DataW.trod enc Try.prog W 0 sp true n 3 [y0] = some _ := g0
  have k1 : Try.prog.cellsOf 3 = 1 := by kernel_rfl
  have g1 := hf 1 _ rfl
  rw [List.getElem?_eq_getElem (by omega)] at g1
  replace g1 : DataW.trod enc Try.prog W 0 sp true n 3 (([y0, y1, y2, y3].drop 1).take (Try.prog.cellsOf 3)) = some _ := g1
  rw [k1] at g1
  replace g1 : DataW.trod enc Try.prog W 0 sp true n 3 [y1] = some _ := g1
  have k2 : Try.prog.cellsOf 4 = 1 := by kernel_rfl
  have g2 := hf 2 _ rfl
  rw [List.getElem?_eq_getElem (by omega)] at g2
  replace g2 : DataW.trod enc Try.prog W 0 sp true n 4 (([y0, y1, y2, y3].drop 2).take (Try.prog.cellsOf 4)) = some _ := g2
  rw [k2] at g2
  replace g2 : DataW.trod enc Try.prog W 0 sp true n 4 [y2] = some _ := g2
  have k3 : Try.prog.cellsOf 4 = 1 := by kernel_rfl
  have g3 := hf 3 _ rfl
  rw [List.getElem?_eq_getElem (by omega)] at g3
  replace g3 : DataW.trod enc Try.prog W 0 sp true n 4 (([y0, y1, y2, y3].drop 3).take (Try.prog.cellsOf 4)) = some _ := g3
  rw [k3] at g3
  replace g3 : DataW.trod enc Try.prog W 0 sp true n 4 [y3] = some _ := g3
  obtain ⟨b0, e0, _, w0⟩ := DataW.trod_int Try.underlying3 g0
  simp only [List.cons.injEq, and_true] at e0
  subst e0
  obtain ⟨b1, e1, _, w1⟩ := DataW.trod_int Try.underlying3 g1
  simp only [List.cons.injEq, and_true] at e1
  subst e1
  obtain ⟨b2, e2, _⟩ := DataW.trod_bool Try.underlying4 g2
  simp only [List.cons.injEq, and_true] at e2
  subst e2
  obtain ⟨b3, e3, _⟩ := DataW.trod_bool Try.underlying4 g3
  simp only [List.cons.injEq, and_true] at e3
  subst e3
  exact ⟨b0, b1, b2, b3, rfl, w0, w1⟩
theorem cells54 {H : Type} {enc : TypeId × Value → H} {W : World} {sp : Nat → Bool} {fuel : Nat} {cs : List Value} {x : DataW H × List MemPlace} (h : DataW.trod enc Try.prog W 0 sp true fuel 54 cs = some x) :
    ∃ (a_0_0 : Int) (a_0_1 : Int) (a_0_2 : Bool) (a_0_3 : Bool) (a_1_0 : Int) (a_1_1 : Int) (a_1_2 : Bool) (a_1_3 : Bool), cs = [.int .i64 a_0_0, .int .i64 a_0_1, .bool a_0_2, .bool a_0_3, .int .i64 a_1_0, .int .i64 a_1_1, .bool a_1_2, .bool a_1_3] ∧ (Lit.int .i64 a_0_0).wf = true ∧ (Lit.int .i64 a_0_1).wf = true ∧ (Lit.int .i64 a_1_0).wf = true ∧ (Lit.int .i64 a_1_1).wf = true := by
  obtain ⟨xs, n, _, rfl, hl, hlen, hf⟩ := DataW.trod_struct Try.underlying54 h
  have hc : Try.prog.cellsOf 54 = 8 := by kernel_rfl
  rw [hc] at hl
  obtain ⟨y0, y1, y2, y3, y4, y5, y6, y7, rfl⟩ := list8 hl
  replace hlen : xs.length = 2 := hlen
  have k0 : Try.prog.cellsOf 52 = 4 := by kernel_rfl
  have g0 := hf 0 _ rfl
  rw [List.getElem?_eq_getElem (by omega)] at g0
  replace g0 : DataW.trod enc Try.prog W 0 sp true n 52 (([y0, y1, y2, y3, y4, y5, y6, y7].drop 0).take (Try.prog.cellsOf 52)) = some _ := g0
  rw [k0] at g0
  replace g0 : DataW.trod enc Try.prog W 0 sp true n 52 [y0, y1, y2, y3] = some _ := g0
  have k1 : Try.prog.cellsOf 52 = 4 := by kernel_rfl
  have g1 := hf 1 _ rfl
  rw [List.getElem?_eq_getElem (by omega)] at g1
  replace g1 : DataW.trod enc Try.prog W 0 sp true n 52 (([y0, y1, y2, y3, y4, y5, y6, y7].drop 4).take (Try.prog.cellsOf 52)) = some _ := g1
  rw [k1] at g1
  replace g1 : DataW.trod enc Try.prog W 0 sp true n 52 [y4, y5, y6, y7] = some _ := g1
  obtain ⟨b0_0, b0_1, b0_2, b0_3, e0, w0_0_0, w0_1_0⟩ := cells52 g0
  simp only [List.cons.injEq, and_true] at e0
  obtain ⟨rfl, rfl, rfl, rfl⟩ := e0
  obtain ⟨b1_0, b1_1, b1_2, b1_3, e1, w1_0_0, w1_1_0⟩ := cells52 g1
  simp only [List.cons.injEq, and_true] at e1
  obtain ⟨rfl, rfl, rfl, rfl⟩ := e1
  exact ⟨b0_0, b0_1, b0_2, b0_3, b1_0, b1_1, b1_2, b1_3, rfl, w0_0_0, w0_1_0, w1_0_0, w1_1_0⟩
set_option maxRecDepth 100000 in
theorem lifted (os : Os) (started : os.Started) (H : Type) (enc : TypeId × Value → H) :
    ReturnsInHanded {} Try.checked os 6 .any (Rows.fnExactWithoutSpec.pre6 enc Try.prog Try.f6 Rows.fnExactWithoutRow.domain false) (Rows.fnExactWithoutSpec.post enc Try.prog Try.f6 false true false false) := by
  refine returnsInHanded_of_change_sized (C := Try.checked) own started (by kernel_rfl) Try.func6
    (ChangeSpec.witness6 (enc := enc) (C := Try.checked) false ⟨#[], #[.agg #[.int .i64 0, .int .i64 0, .bool false, .bool false, .int .i64 0, .int .i64 0, .bool false, .bool false], .agg #[.int .i64 0, .int .i64 0, .bool false, .bool false, .int .i64 0, .int .i64 0, .bool false, .bool false]], []⟩ 8 (by kernel_rfl) (by kernel_rfl) (by kernel_rfl) (by kernel_rfl)) ?_
  intro W base args ds gs before hval0 hW hcnd hsz0 _
  have hval : ∀ (j : Nat) t v, Try.f6.params[j]? = some t → args[j]? = some v → Value.okWide Try.prog W .any base t v := hval0
  have hW' := hW
  obtain ⟨p, q, hA0, hV, rfl, hfz, hnd⟩ := hW
  have hA : DataW.TrodAll enc Try.prog W 0 (fun _ => true) true Try.f6.params.toList args.toList ds p := hA0
  rw [Try.params6] at hA hval
  obtain ⟨v0, vs0, d0, ds0, p0, q0, hargs, rfl, rfl, h0, r0⟩ := trodAll_cons hA
  obtain ⟨v1, vs1, d1, ds1, p1, q1, rfl, rfl, rfl, h1, r1⟩ := trodAll_cons r0
  obtain ⟨rfl, rfl, rfl⟩ := trodAll_nil r1
  obtain rfl : args = #[v0, v1] := by cases args; simp_all
  obtain ⟨rfl, rfl⟩ := trodVars_none hV
  have k0 := h0
  have lt0 : ∀ x ∈ p0, x.block < W.heap.size := by obtain ⟨m, hm⟩ := k0; exact DataW.trod_lt m _ _ _ hm
  obtain ⟨cs0, rfl, hs0⟩ := okWide_struct Try.underlying54 (hval 0 54 v0 rfl rfl)
  obtain ⟨fuel0, hf0⟩ := h0
  obtain ⟨a0_0, a0_1, a0_2, a0_3, a0_4, a0_5, a0_6, a0_7, hc0, w0_0_0, w0_1_0, w0_4_0, w0_5_0⟩ := cells54 hf0
  obtain rfl : cs0 = #[.int .i64 a0_0, .int .i64 a0_1, .bool a0_2, .bool a0_3, .int .i64 a0_4, .int .i64 a0_5, .bool a0_6, .bool a0_7] := Array.toList_inj.1 hc0
  have k1 := h1
  have lt1 : ∀ x ∈ p1, x.block < W.heap.size := by obtain ⟨m, hm⟩ := k1; exact DataW.trod_lt m _ _ _ hm
  obtain ⟨cs1, rfl, hs1⟩ := okWide_struct Try.underlying54 (hval 1 54 v1 rfl rfl)
  obtain ⟨fuel1, hf1⟩ := h1
  obtain ⟨a1_0, a1_1, a1_2, a1_3, a1_4, a1_5, a1_6, a1_7, hc1, w1_0_0, w1_1_0, w1_4_0, w1_5_0⟩ := cells54 hf1
  obtain rfl : cs1 = #[.int .i64 a1_0, .int .i64 a1_1, .bool a1_2, .bool a1_3, .int .i64 a1_4, .int .i64 a1_5, .bool a1_6, .bool a1_7] := Array.toList_inj.1 hc1
  clear hA0 hval0 hsz0
  obtain ⟨k, hk⟩ := Pure.FnExactWithout a0_0 a0_1 a0_2 a0_3 a0_4 a0_5 a0_6 a0_7 a1_0 a1_1 a1_2 a1_3 a1_4 a1_5 a1_6 a1_7 w0_0_0 w0_1_0 w0_4_0 w0_5_0 w1_0_0 w1_1_0 w1_4_0 w1_5_0
  refine (PFnExactWithout.laws_FnExactWithout.calls k a0_0 a0_1 a0_2 a0_3 a0_4 a0_5 a0_6 a0_7 a1_0 a1_1 a1_2 a1_3 a1_4 a1_5 a1_6 a1_7 true W  hk rfl).mono fun e W' ⟨he, bel⟩ => ?_
  subst he
  exact ⟨_, rfl, _, _, _, [], _, [], hW', trodAll_mk1 (shut_bool Try.underlying4 _), (trodAll_cons_mk (Below.trod laidOut (by kernel_rfl) (of_decide_eq_true (by kernel_rfl)) k0 bel lt0) (trodAll_cons_mk (Below.trod laidOut (by kernel_rfl) (of_decide_eq_true (by kernel_rfl)) k1 bel lt1) trodAll_mk0)), rfl, bel.frame _, fun h => by cases h⟩
theorem over : Rows.fnExactWithoutRow.holds Try.pinned (OpenSpec.ofChange Rows.fnExactWithoutSpec) :=
  OpenClaim.holds_of_wide 6 Try.f6 rfl rfl rfl rfl rfl rfl rfl ⟨rfl, rfl, rfl, rfl, rfl⟩ rfl rfl rfl rfl rfl (by kernel_rfl) Try.func6 (by kernel_rfl)
    (of_decide_eq_true (by kernel_rfl)) (by unfold Func.isWrapper; first | (rw [if_pos (by decide +kernel)]; kernel_rfl) | (rw [if_neg (by decide +kernel)]; exact ⟨rfl, rfl⟩))
    (fun os started H enc _ => lifted os started H enc)
theorem proved : Rows.FnExactWithoutSaid := over
#print axioms proved
end Go.Proofs.Ytojfkjggpdlngaa.fnExactWithout
namespace Go.Proofs.Ytojfkjggpdlngaa
theorem fnExactWithout_holds : Rows.FnExactWithoutSaid := fnExactWithout.proved
end Go.Proofs.Ytojfkjggpdlngaa
