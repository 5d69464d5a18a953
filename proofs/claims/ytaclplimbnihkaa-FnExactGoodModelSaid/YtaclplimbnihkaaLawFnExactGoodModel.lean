/- The row of FnExactGoodModel: for every input the law returns true and the input reads as it did; on the contract of the law's function and on the plain law of the text YtaclplimbnihkaaPureFnExactGoodModel. No further condition. -/
import Derived.Test.YtaclplimbnihkaaRows
import Derived.Test.YtaclplimbnihkaaMFnExactGoodModela8
import Derived.Test.YtaclplimbnihkaaRFnExactGoodModel
import Derived.Test.YtaclplimbnihkaaPureFnExactGoodModel
import Derived.WalkKit
import Derived.ProofKit
import Derived.OpenShut
import Derived.ShutString
import Derived.ChangeOld
import Derived.Below
import Derived.Carry
import Derived.SizedLaws
namespace Go.Proofs.Ytaclplimbnihkaa.fnExactGoodModel
open Go.ChangeShapes Go.WideShapes Go.ChangeAt Go.RowKit Go.Proofs.YtaclplimbnihkaaW.PrintWords Go.Proofs.Ytaclplimbnihkaa.PFnExactGoodModel
open Go.ChangeMaps (open_string shut_string)
set_option linter.unusedVariables false
theorem own : ownKnob Try.prog.godebug = none := by kernel_rfl
theorem laidOut : laidOutB Try.prog = true := by kernel_rfl
theorem list3 {l : List Value} (h : l.length = 3) : ∃ c0 c1 c2, l = [c0, c1, c2] := by
  match l, h with
  | [c0, c1, c2], _ => exact ⟨c0, c1, c2, rfl⟩
theorem cells79 {H : Type} {enc : TypeId × Value → H} {W : World} {sp : Nat → Bool} {fuel : Nat} {cs : List Value} {x : DataW H × List MemPlace} (h : DataW.trod enc Try.prog W 0 sp true fuel 79 cs = some x) :
    ∃ (A_0 : Option Addr) (c_0 : Nat) (l_0 : (List S154)) (A_1 : Option Addr) (c_1 : Nat) (l_1 : (List S180)) (A_2 : Option Addr) (c_2 : Nat) (l_2 : (List Bool)), cs = [.slice A_0 l_0.length c_0, .slice A_1 l_1.length c_1, .slice A_2 l_2.length c_2] ∧ l_0.length ≤ c_0 ∧ Kd.C k154 W A_0 l_0.length l_0 ∧ QL Q154 l_0 ∧ l_1.length ≤ c_1 ∧ Kd.C k180 W A_1 l_1.length l_1 ∧ QL Q180 l_1 ∧ l_2.length ≤ c_2 ∧ Kd.C Kd.bool W A_2 l_2.length l_2 ∧ QL QB l_2 := by
  obtain ⟨xs, n, _, rfl, hl, hlen, hf⟩ := DataW.trod_struct Try.underlying79 h
  have hc : Try.prog.cellsOf 79 = 3 := by kernel_rfl
  rw [hc] at hl
  obtain ⟨y0, y1, y2, rfl⟩ := list3 hl
  replace hlen : xs.length = 3 := hlen
  have k0 : Try.prog.cellsOf 75 = 1 := by kernel_rfl
  have g0 := hf 0 _ rfl
  rw [List.getElem?_eq_getElem (by omega)] at g0
  replace g0 : DataW.trod enc Try.prog W 0 sp true n 75 (([y0, y1, y2].drop 0).take (Try.prog.cellsOf 75)) = some _ := g0
  rw [k0] at g0
  replace g0 : DataW.trod enc Try.prog W 0 sp true n 75 [y0] = some _ := g0
  have k1 : Try.prog.cellsOf 76 = 1 := by kernel_rfl
  have g1 := hf 1 _ rfl
  rw [List.getElem?_eq_getElem (by omega)] at g1
  replace g1 : DataW.trod enc Try.prog W 0 sp true n 76 (([y0, y1, y2].drop 1).take (Try.prog.cellsOf 76)) = some _ := g1
  rw [k1] at g1
  replace g1 : DataW.trod enc Try.prog W 0 sp true n 76 [y1] = some _ := g1
  have k2 : Try.prog.cellsOf 77 = 1 := by kernel_rfl
  have g2 := hf 2 _ rfl
  rw [List.getElem?_eq_getElem (by omega)] at g2
  replace g2 : DataW.trod enc Try.prog W 0 sp true n 77 (([y0, y1, y2].drop 2).take (Try.prog.cellsOf 77)) = some _ := g2
  rw [k2] at g2
  replace g2 : DataW.trod enc Try.prog W 0 sp true n 77 [y2] = some _ := g2
  obtain ⟨A0, c0, l0, e0, w0_0, w0_1, w0_2⟩ := rows_of_trod Try.underlying75 (by kernel_rfl) fits154 g0
  simp only [List.cons.injEq, and_true] at e0
  subst e0
  obtain ⟨A1, c1, l1, e1, w1_0, w1_1, w1_2⟩ := rows_of_trod Try.underlying76 (by kernel_rfl) fits180 g1
  simp only [List.cons.injEq, and_true] at e1
  subst e1
  obtain ⟨A2, c2, l2, e2, w2_0, w2_1, w2_2⟩ := rows_of_trod Try.underlying77 (by kernel_rfl) (fits_bool Try.underlying4) g2
  simp only [List.cons.injEq, and_true] at e2
  subst e2
  exact ⟨A0, c0, l0, A1, c1, l1, A2, c2, l2, rfl, w0_0, w0_1, w0_2, w1_0, w1_1, w1_2, w2_0, w2_1, w2_2⟩
set_option maxRecDepth 100000 in
theorem lifted (os : Os) (started : os.Started) (H : Type) (enc : TypeId × Value → H) :
    ReturnsInHanded {} Try.checked os 12 .any (Rows.fnExactGoodModelSpec.pre6 enc Try.prog Try.f12 Rows.fnExactGoodModelRow.domain false) (Rows.fnExactGoodModelSpec.post enc Try.prog Try.f12 false true false false) := by
  refine returnsInHanded_of_change_sized (C := Try.checked) own started (by kernel_rfl) Try.func12
    (ChangeSpec.witness6 (enc := enc) (C := Try.checked) false ⟨#[], #[.agg #[.slice none 0 0, .slice none 0 0, .slice none 0 0]], []⟩ 8 (by kernel_rfl) (by kernel_rfl) (by kernel_rfl) (by kernel_rfl)) ?_
  intro W base args ds gs before hval0 hW hcnd hsz0 _
  have hval : ∀ (j : Nat) t v, Try.f12.params[j]? = some t → args[j]? = some v → Value.okWide Try.prog W .any base t v := hval0
  have hW' := hW
  obtain ⟨p, q, hA0, hV, rfl, hfz, hnd⟩ := hW
  have hA : DataW.TrodAll enc Try.prog W 0 (fun _ => true) true Try.f12.params.toList args.toList ds p := hA0
  rw [Try.params12] at hA hval
  obtain ⟨v0, vs0, d0, ds0, p0, q0, hargs, rfl, rfl, h0, r0⟩ := trodAll_cons hA
  obtain ⟨rfl, rfl, rfl⟩ := trodAll_nil r0
  obtain rfl : args = #[v0] := by cases args; simp_all
  obtain ⟨rfl, rfl⟩ := trodVars_none hV
  have k0 := h0
  have lt0 : ∀ x ∈ p0, x.block < W.heap.size := by obtain ⟨m, hm⟩ := k0; exact DataW.trod_lt m _ _ _ hm
  obtain ⟨cs0, rfl, hs0⟩ := okWide_struct Try.underlying79 (hval 0 79 v0 rfl rfl)
  obtain ⟨fuel0, hf0⟩ := h0
  obtain ⟨A0_0, c0_0, l0_0, A0_1, c0_1, l0_1, A0_2, c0_2, l0_2, hc0, w0_0_0, w0_0_1, w0_0_2, w0_1_0, w0_1_1, w0_1_2, w0_2_0, w0_2_1, w0_2_2⟩ := cells79 hf0
  obtain rfl : cs0 = #[.slice A0_0 l0_0.length c0_0, .slice A0_1 l0_1.length c0_1, .slice A0_2 l0_2.length c0_2] := Array.toList_inj.1 hc0
  clear hA0 hval0 hsz0
  obtain ⟨k, hk⟩ := Pure.FnExactGoodModel l0_0 l0_1 l0_2 w0_0_2 w0_1_2 w0_2_2
  refine (PFnExactGoodModel.laws_FnExactGoodModel.calls k A0_0 c0_0 l0_0 A0_1 c0_1 l0_1 A0_2 c0_2 l0_2 true W w0_0_1 w0_0_0 w0_1_1 w0_1_0 w0_2_1 w0_2_0 hk).mono fun e W' ⟨he, bel⟩ => ?_
  subst he
  exact ⟨_, rfl, _, _, _, [], _, [], hW', trodAll_mk1 (shut_bool Try.underlying4 _), (trodAll_cons_mk (Below.trod laidOut (by kernel_rfl) (of_decide_eq_true (by kernel_rfl)) k0 bel lt0) trodAll_mk0), rfl, bel.frame _, fun h => by cases h⟩
theorem over : Rows.fnExactGoodModelRow.holds Try.pinned (OpenSpec.ofChange Rows.fnExactGoodModelSpec) :=
  OpenClaim.holds_of_wide 12 Try.f12 rfl rfl rfl rfl rfl rfl rfl ⟨rfl, rfl, rfl, rfl, rfl⟩ rfl rfl rfl rfl rfl (by kernel_rfl) Try.func12 (by kernel_rfl)
    (of_decide_eq_true (by kernel_rfl)) (by unfold Func.isWrapper; first | (rw [if_pos (by decide +kernel)]; kernel_rfl) | (rw [if_neg (by decide +kernel)]; exact ⟨rfl, rfl⟩))
    (fun os started H enc _ => lifted os started H enc)
theorem proved : Rows.FnExactGoodModelSaid := over
#print axioms proved
end Go.Proofs.Ytaclplimbnihkaa.fnExactGoodModel
namespace Go.Proofs.Ytaclplimbnihkaa
theorem fnExactGoodModel_holds : Rows.FnExactGoodModelSaid := fnExactGoodModel.proved
end Go.Proofs.Ytaclplimbnihkaa
