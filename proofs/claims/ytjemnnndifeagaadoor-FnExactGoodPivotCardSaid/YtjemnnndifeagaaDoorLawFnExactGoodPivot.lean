/- The card of FnExactGoodPivot: for every input the law returns true and the input reads as it did; the tables are what the program's text lays (tied). No further condition. -/
import Derived.Test.YtjemnnndifeagaaDoorRows
import Derived.Test.YtjemnnndifeagaaDoorTie
import Derived.Test.YtjemnnndifeagaaDoorCards
import Derived.Test.YtjemnnndifeagaaDoorMFnExactGoodPivota12
import Derived.Test.YtjemnnndifeagaaDoorRFnExactGoodPivot
import Derived.Test.YtjemnnndifeagaaDoorPureFnExactGoodPivot
import Derived.WalkKit
import Derived.ProofKit
import Derived.LaidMore
import Derived.OpenShut
import Derived.ShutString
import Derived.ChangeOld
import Derived.Below
import Derived.Stop.Joined
import Derived.ChangeVars
import Derived.Carry
import Derived.SizedLaws
import Derived.SevenTiedAt
namespace Go.Proofs.YtjemnnndifeagaaDoor.fnExactGoodPivot
open Go.ChangeShapes Go.WideShapes Go.ChangeAt Go.RowKit Go.Proofs.YtjemnnndifeagaaDoorW.PrintWords Go.Proofs.YtjemnnndifeagaaDoor.PFnExactGoodPivot
open Go.ChangeMaps (open_string shut_string)
set_option linter.unusedVariables false
theorem own : ownKnob Tryd.prog.godebug = none := by kernel_rfl
theorem laidOut : laidOutB Tryd.prog = true := by kernel_rfl
/-- A plain table of whole numbers reads as its cells hold. -/
theorem ints_of_trod {H : Type} {enc : TypeId × Value → H} {P : Program} {w : World} {sp : Nat → Bool} {held : Bool} {fuel n : Nat} {K : IntKind} {t e : TypeId} {cs : List Value} {zs : List Int} {p : List MemPlace}
    (ht : P.underlying t = some (.array n e)) (he : P.underlying e = some (.int K)) (hc : P.cellsOf e = 1) (hct : P.cellsOf t = n) (hz : zs.length = n)
    (hd : DataW.trod enc P w 0 sp held fuel t cs = some (.agg (zs.map fun z => .lit (.int K z)), p)) : cs = zs.map fun z => .int K z := by
  obtain ⟨xs, m, _, hx, hl, hlen, hel⟩ := DataW.trod_array ht hd
  rw [hct] at hl
  simp only [Prod.mk.injEq, DataW.agg.injEq] at hx
  refine List.ext_getElem? fun i => ?_
  by_cases hi : i < n
  · have h1 := hel i hi
    rw [hc, Nat.mul_one, List.getElem?_eq_getElem (by omega)] at h1
    obtain ⟨k, e1, e2, _⟩ := DataW.trod_int he h1
    have h2 : (zs.map fun z => (DataW.lit (.int K z) : DataW H))[i]? = (xs.map (·.1))[i]? := by rw [hx.1]
    rw [List.getElem?_map, List.getElem?_map, List.getElem?_eq_getElem (by omega), List.getElem?_eq_getElem (by omega), e2] at h2
    simp only [Option.map_some, Option.some.injEq, DataW.lit.injEq, Lit.int.injEq, true_and] at h2
    rw [List.getElem?_map, List.getElem?_eq_getElem (by omega : i < zs.length)]
    have h3 : ((cs.drop i).take 1)[0]? = some (.int K k) := by rw [e1]; rfl
    rw [List.getElem?_take, if_pos (by omega), List.getElem?_drop] at h3
    simpa [h2] using h3
  · rw [List.getElem?_eq_none (by omega), List.getElem?_eq_none (by rw [List.length_map]; omega)]
theorem var_below {P : Program} {w w' : World} {n : String} {g : Nat} {cs : Array Value} (h : w.var? P n = some cs) (hg : P.globalNamed n = some g) (hb : Below w.heap.size w w') (hlt : g < w.heap.size) : w'.var? P n = some cs := by
  have e := hb.block g hlt
  simp only [World.var?, hg, Option.bind_some] at h ⊢
  rw [e]; exact h
/-- A plain table of texts reads as its cells hold. -/
theorem strs_of_trod {H : Type} {enc : TypeId × Value → H} {P : Program} {w : World} {sp : Nat → Bool} {held : Bool} {fuel n : Nat} {t e : TypeId} {cs : List Value} {zs : List (List UInt8)} {p : List MemPlace}
    (ht : P.underlying t = some (.array n e)) (he : P.underlying e = some .string) (hc : P.cellsOf e = 1) (hct : P.cellsOf t = n) (hz : zs.length = n)
    (hd : DataW.trod enc P w 0 sp held fuel t cs = some (.agg (zs.map fun z => .lit (.string z)), p)) : cs = zs.map fun z => .string ⟨⟨z⟩⟩ := by
  obtain ⟨xs, m, _, hx, hl, hlen, hel⟩ := DataW.trod_array ht hd
  rw [hct] at hl
  simp only [Prod.mk.injEq, DataW.agg.injEq] at hx
  refine List.ext_getElem? fun i => ?_
  by_cases hi : i < n
  · have h1 := hel i hi
    rw [hc, Nat.mul_one, List.getElem?_eq_getElem (by omega)] at h1
    obtain ⟨k, e1, e2, _⟩ := DataW.trod_string he h1
    have h2 : (zs.map fun z => (DataW.lit (.string z) : DataW H))[i]? = (xs.map (·.1))[i]? := by rw [hx.1]
    rw [List.getElem?_map, List.getElem?_map, List.getElem?_eq_getElem (by omega), List.getElem?_eq_getElem (by omega), e2] at h2
    simp only [Option.map_some, Option.some.injEq, DataW.lit.injEq, Lit.string.injEq] at h2
    rw [List.getElem?_map, List.getElem?_eq_getElem (by omega : i < zs.length)]
    have h3 : ((cs.drop i).take 1)[0]? = some (.string k) := by rw [e1]; rfl
    rw [List.getElem?_take, if_pos (by omega), List.getElem?_drop] at h3
    simpa [h2] using h3
  · rw [List.getElem?_eq_none (by omega), List.getElem?_eq_none (by rw [List.length_map]; omega)]
theorem trodVars_cons {H : Type} {enc : TypeId × Value → H} {P : Program} {w : World} {sp : Nat → Bool} {n : String} {ns : List String} {gs : List (DataW H)} {ps : List MemPlace} (h : DataW.TrodVars enc P w sp (n :: ns) gs ps) :
    ∃ g t cs fuel d p ds q, gs = d :: ds ∧ P.globalNamed n = some g ∧ (P.globals[g]?).map (·.type) = some t ∧ w.var? P n = some cs ∧ DataW.trod enc P w 0 sp true fuel t cs.toList = some (d, p) ∧ DataW.TrodVars enc P w sp ns ds q ∧ ps = MemPlace.row ⟨g, 0, none⟩ cs.size ++ p ++ q := by
  cases gs with
  | nil => simp [DataW.TrodVars] at h
  | cons d ds =>
    obtain ⟨g, t, cs, fuel, p, q, h1, h2, h3, h4, hs, e⟩ := h
    exact ⟨g, t, cs, fuel, d, p, ds, q, rfl, h1, h2, h3, h4, hs, e⟩
theorem trodVars_nil {H : Type} {enc : TypeId × Value → H} {P : Program} {w : World} {sp : Nat → Bool} : DataW.TrodVars enc P w sp [] [] [] := rfl
theorem trodVars_mkc {H : Type} {enc : TypeId × Value → H} {P : Program} {w : World} {sp : Nat → Bool} {n : String} {ns : List String} {g : Nat} {t : TypeId} {cs : Array Value} {fuel : Nat} {d : DataW H} {ds : List (DataW H)} {p q : List MemPlace}
    (h1 : P.globalNamed n = some g) (h2 : (P.globals[g]?).map (·.type) = some t) (h3 : w.var? P n = some cs) (h4 : DataW.trod enc P w 0 sp true fuel t cs.toList = some (d, p)) (hs : DataW.TrodVars enc P w sp ns ds q) :
    DataW.TrodVars enc P w sp (n :: ns) (d :: ds) (MemPlace.row ⟨g, 0, none⟩ cs.size ++ p ++ q) := ⟨g, t, cs, fuel, p, q, h1, h2, h3, h4, hs, rfl⟩
theorem gT0 : Tryd.prog.globalNamed "loop.example/g00025/impl.errorTexts" = some 0 := by kernel_rfl
theorem gTT0 : (Tryd.prog.globals[0]?).map (·.type) = some 197 := by kernel_rfl
def zs0 : List (List UInt8) := [[35, 78, 85, 76, 76, 33], [35, 68, 73, 86, 47, 48, 33], [35, 86, 65, 76, 85, 69, 33], [35, 82, 69, 70, 33], [35, 78, 65, 77, 69, 63], [35, 78, 85, 77, 33], [35, 78, 47, 65], [35, 83, 80, 73, 76, 76, 33], [35, 67, 89, 67, 76, 69, 33]]
def cells0_ : Array Value := #[.string ⟨⟨[35, 78, 85, 76, 76, 33]⟩⟩, .string ⟨⟨[35, 68, 73, 86, 47, 48, 33]⟩⟩, .string ⟨⟨[35, 86, 65, 76, 85, 69, 33]⟩⟩, .string ⟨⟨[35, 82, 69, 70, 33]⟩⟩, .string ⟨⟨[35, 78, 65, 77, 69, 63]⟩⟩, .string ⟨⟨[35, 78, 85, 77, 33]⟩⟩, .string ⟨⟨[35, 78, 47, 65]⟩⟩, .string ⟨⟨[35, 83, 80, 73, 76, 76, 33]⟩⟩, .string ⟨⟨[35, 67, 89, 67, 76, 69, 33]⟩⟩]
theorem door_met (os : Os) (args : Array Value) : laidMetH Tryd.prog Rows.fnExactGoodPivotRow.laid ((World.doorLaid Tryd.prog 400 os).forCall (fun _ _ => 0) ⟨#[], args, []⟩).memory :=
  laidMetH_of_parts3 (fuel := 8) (laidMet_of_run' 8 (by kernel_rfl) (by kernel_rfl)) (by kernel_rfl) (by kernel_rfl)
theorem cells_of {W : World} (h : laidMetH Tryd.prog Rows.fnExactGoodPivotRow.laid W) : W.var? Tryd.prog "loop.example/g00025/impl.errorTexts" = some cells0_ := by
  rw [MakeChecks.laidMetH_plain _ _ _ (by kernel_rfl)] at h
  obtain ⟨ps, ⟨g0, t0, cs0, fuel0, p0, q0, hg0, ht0, hvar0, hd0, _, _⟩, _⟩ := h
  obtain rfl := Option.some.inj (gT0.symm.trans hg0)
  obtain rfl := Option.some.inj (gTT0.symm.trans ht0)
  have e0 : cs0 = cells0_ := Array.toList_inj.1 (strs_of_trod (zs := zs0) Tryd.underlying197 Tryd.underlying9 (by kernel_rfl) (by kernel_rfl) rfl hd0)
  exact hvar0.trans (congrArg some e0)
abbrev tableH0 {H : Type} : DataW H := Rows.laid_loop_example_g00025_impl_errorTexts
theorem reads_table0 {H : Type} (enc : TypeId × Value → H) (W : World) (sp : Nat → Bool) : DataW.trod enc Tryd.prog W 0 sp true 3 197 cells0_.toList = some (tableH0, []) := by kernel_rfl
theorem TabE_of {W : World} (h : W.var? Tryd.prog "loop.example/g00025/impl.errorTexts" = some cells0_) : PFnExactGoodPivot.TabE W := by
  intro m h1
  rw [World.var?_cell gT0 h]
  rcases (by omega : m = 0 ∨ m = 1 ∨ m = 2 ∨ m = 3 ∨ m = 4 ∨ m = 5 ∨ m = 6 ∨ m = 7 ∨ m = 8) with rfl | rfl | rfl | rfl | rfl | rfl | rfl | rfl | rfl <;> rfl
theorem tab_of {W : World} (h : W.var? Tryd.prog "loop.example/g00025/impl.errorTexts" = some cells0_) : PFnExactGoodPivot.Tab W := TabE_of h
theorem list3 {l : List Value} (h : l.length = 3) : ∃ c0 c1 c2, l = [c0, c1, c2] := by
  match l, h with
  | [c0, c1, c2], _ => exact ⟨c0, c1, c2, rfl⟩
theorem list4 {l : List Value} (h : l.length = 4) : ∃ c0 c1 c2 c3, l = [c0, c1, c2, c3] := by
  match l, h with
  | [c0, c1, c2, c3], _ => exact ⟨c0, c1, c2, c3, rfl⟩
theorem cells24 {H : Type} {enc : TypeId × Value → H} {W : World} {sp : Nat → Bool} {fuel : Nat} {cs : List Value} {x : DataW H × List MemPlace} (h : DataW.trod enc Tryd.prog W 0 sp true fuel 24 cs = some x) :
    ∃ (a_0 : Int) (a_1 : Int) (A_2 : Option Addr) (c_2 : Nat) (l_2 : (List S77)), cs = [.int .i64 a_0, .int .i64 a_1, .slice A_2 l_2.length c_2] ∧ (Lit.int .i64 a_0).wf = true ∧ (Lit.int .i64 a_1).wf = true ∧ l_2.length ≤ c_2 ∧ Kd.C k77 W A_2 l_2.length l_2 ∧ QL Q77 l_2 := by
  obtain ⟨xs, n, _, rfl, hl, hlen, hf⟩ := DataW.trod_struct Tryd.underlying24 h
  have hc : Tryd.prog.cellsOf 24 = 3 := by kernel_rfl
  rw [hc] at hl
  obtain ⟨y0, y1, y2, rfl⟩ := list3 hl
  replace hlen : xs.length = 3 := hlen
  have k0 : Tryd.prog.cellsOf 3 = 1 := by kernel_rfl
  have g0 := hf 0 _ rfl
  rw [List.getElem?_eq_getElem (by omega)] at g0
  replace g0 : DataW.trod enc Tryd.prog W 0 sp true n 3 (([y0, y1, y2].drop 0).take (Tryd.prog.cellsOf 3)) = some _ := g0
  rw [k0] at g0
  replace g0 : DataW.trod enc Tryd.prog W 0 sp true n 3 [y0] = some _ := g0
  have k1 : Tryd.prog.cellsOf 3 = 1 := by kernel_rfl
  have g1 := hf 1 _ rfl
  rw [List.getElem?_eq_getElem (by omega)] at g1
  replace g1 : DataW.trod enc Tryd.prog W 0 sp true n 3 (([y0, y1, y2].drop 1).take (Tryd.prog.cellsOf 3)) = some _ := g1
  rw [k1] at g1
  replace g1 : DataW.trod enc Tryd.prog W 0 sp true n 3 [y1] = some _ := g1
  have k2 : Tryd.prog.cellsOf 22 = 1 := by kernel_rfl
  have g2 := hf 2 _ rfl
  rw [List.getElem?_eq_getElem (by omega)] at g2
  replace g2 : DataW.trod enc Tryd.prog W 0 sp true n 22 (([y0, y1, y2].drop 2).take (Tryd.prog.cellsOf 22)) = some _ := g2
  rw [k2] at g2
  replace g2 : DataW.trod enc Tryd.prog W 0 sp true n 22 [y2] = some _ := g2
  obtain ⟨b0, e0, _, w0⟩ := DataW.trod_int Tryd.underlying3 g0
  simp only [List.cons.injEq, and_true] at e0
  subst e0
  obtain ⟨b1, e1, _, w1⟩ := DataW.trod_int Tryd.underlying3 g1
  simp only [List.cons.injEq, and_true] at e1
  subst e1
  obtain ⟨A2, c2, l2, e2, w2_0, w2_1, w2_2⟩ := rows_of_trod Tryd.underlying22 (by kernel_rfl) fits77 g2
  simp only [List.cons.injEq, and_true] at e2
  subst e2
  exact ⟨b0, b1, A2, c2, l2, rfl, w0, w1, w2_0, w2_1, w2_2⟩
theorem cells28 {H : Type} {enc : TypeId × Value → H} {W : World} {sp : Nat → Bool} {fuel : Nat} {cs : List Value} {x : DataW H × List MemPlace} (h : DataW.trod enc Tryd.prog W 0 sp true fuel 28 cs = some x) :
    ∃ (A_0 : Option Addr) (c_0 : Nat) (l_0 : (List Int)) (A_1 : Option Addr) (c_1 : Nat) (l_1 : (List Int)) (A_2 : Option Addr) (c_2 : Nat) (l_2 : (List S136)) (a_3 : Bool), cs = [.slice A_0 l_0.length c_0, .slice A_1 l_1.length c_1, .slice A_2 l_2.length c_2, .bool a_3] ∧ l_0.length ≤ c_0 ∧ Kd.C (Kd.int .i64) W A_0 l_0.length l_0 ∧ QL (QI .i64) l_0 ∧ l_1.length ≤ c_1 ∧ Kd.C (Kd.int .i64) W A_1 l_1.length l_1 ∧ QL (QI .i64) l_1 ∧ l_2.length ≤ c_2 ∧ Kd.C k136 W A_2 l_2.length l_2 ∧ QL Q136 l_2 := by
  obtain ⟨xs, n, _, rfl, hl, hlen, hf⟩ := DataW.trod_struct Tryd.underlying28 h
  have hc : Tryd.prog.cellsOf 28 = 4 := by kernel_rfl
  rw [hc] at hl
  obtain ⟨y0, y1, y2, y3, rfl⟩ := list4 hl
  replace hlen : xs.length = 4 := hlen
  have k0 : Tryd.prog.cellsOf 25 = 1 := by kernel_rfl
  have g0 := hf 0 _ rfl
  rw [List.getElem?_eq_getElem (by omega)] at g0
  replace g0 : DataW.trod enc Tryd.prog W 0 sp true n 25 (([y0, y1, y2, y3].drop 0).take (Tryd.prog.cellsOf 25)) = some _ := g0
  rw [k0] at g0
  replace g0 : DataW.trod enc Tryd.prog W 0 sp true n 25 [y0] = some _ := g0
  have k1 : Tryd.prog.cellsOf 25 = 1 := by kernel_rfl
  have g1 := hf 1 _ rfl
  rw [List.getElem?_eq_getElem (by omega)] at g1
  replace g1 : DataW.trod enc Tryd.prog W 0 sp true n 25 (([y0, y1, y2, y3].drop 1).take (Tryd.prog.cellsOf 25)) = some _ := g1
  rw [k1] at g1
  replace g1 : DataW.trod enc Tryd.prog W 0 sp true n 25 [y1] = some _ := g1
  have k2 : Tryd.prog.cellsOf 26 = 1 := by kernel_rfl
  have g2 := hf 2 _ rfl
  rw [List.getElem?_eq_getElem (by omega)] at g2
  replace g2 : DataW.trod enc Tryd.prog W 0 sp true n 26 (([y0, y1, y2, y3].drop 2).take (Tryd.prog.cellsOf 26)) = some _ := g2
  rw [k2] at g2
  replace g2 : DataW.trod enc Tryd.prog W 0 sp true n 26 [y2] = some _ := g2
  have k3 : Tryd.prog.cellsOf 4 = 1 := by kernel_rfl
  have g3 := hf 3 _ rfl
  rw [List.getElem?_eq_getElem (by omega)] at g3
  replace g3 : DataW.trod enc Tryd.prog W 0 sp true n 4 (([y0, y1, y2, y3].drop 3).take (Tryd.prog.cellsOf 4)) = some _ := g3
  rw [k3] at g3
  replace g3 : DataW.trod enc Tryd.prog W 0 sp true n 4 [y3] = some _ := g3
  obtain ⟨A0, c0, l0, e0, w0_0, w0_1, w0_2⟩ := rows_of_trod Tryd.underlying25 (by kernel_rfl) (fits_int Tryd.underlying3) g0
  simp only [List.cons.injEq, and_true] at e0
  subst e0
  obtain ⟨A1, c1, l1, e1, w1_0, w1_1, w1_2⟩ := rows_of_trod Tryd.underlying25 (by kernel_rfl) (fits_int Tryd.underlying3) g1
  simp only [List.cons.injEq, and_true] at e1
  subst e1
  obtain ⟨A2, c2, l2, e2, w2_0, w2_1, w2_2⟩ := rows_of_trod Tryd.underlying26 (by kernel_rfl) fits136 g2
  simp only [List.cons.injEq, and_true] at e2
  subst e2
  obtain ⟨b3, e3, _⟩ := DataW.trod_bool Tryd.underlying4 g3
  simp only [List.cons.injEq, and_true] at e3
  subst e3
  exact ⟨A0, c0, l0, A1, c1, l1, A2, c2, l2, b3, rfl, w0_0, w0_1, w0_2, w1_0, w1_1, w1_2, w2_0, w2_1, w2_2⟩
set_option maxRecDepth 100000 in
theorem lifted (os : Os) (started : os.Started) (H : Type) (enc : TypeId × Value → H) :
    ReturnsInHanded {} Tryd.checked os 3 .any (fun w args => (Rows.fnExactGoodPivotSpec.pre enc Tryd.prog Tryd.f3 [] false w args ∧ laidMetH Tryd.prog Rows.fnExactGoodPivotRow.laid w) ∧ sizedMet enc Tryd.prog Tryd.f3 (OpenSpec.ofChange Rows.fnExactGoodPivotSpec) false w args)
      (Rows.fnExactGoodPivotSpec.post enc Tryd.prog Tryd.f3 false true false false) := by
  refine returnsInHanded_of_change_and (C := Tryd.checked) (X := fun w _ => laidMetH Tryd.prog Rows.fnExactGoodPivotRow.laid w) (fun _ _ _ hh h => h.of_heap hh) own started (by kernel_rfl) Tryd.func3
    (ChangeSpec.witness_shaped (enc := enc) (C := Tryd.checked) (os := os) (X := fun w _ => laidMetH Tryd.prog Rows.fnExactGoodPivotRow.laid w) false (World.doorLaid Tryd.prog 400 os) #[.agg #[.int .i64 0, .int .i64 0, .slice none 0 0], .agg #[.slice none 0 0, .slice none 0 0, .slice none 0 0, .bool false]] 8 rfl (World.shaped_of_RefB (by kernel_rfl) (by kernel_rfl)) (by kernel_rfl) (by kernel_rfl) (by kernel_rfl) (door_met os _)) ?_
  intro W base args ds gs before hval0 hW _ _ hL _
  have hval : ∀ (j : Nat) t v, Tryd.f3.params[j]? = some t → args[j]? = some v → Value.okWide Tryd.prog W .any base t v := hval0
  have hW' := hW
  obtain ⟨p, q, hA0, hV0, rfl, hfz, hnd⟩ := hW
  have hA : DataW.TrodAll enc Tryd.prog W 0 (fun _ => true) true Tryd.f3.params.toList args.toList ds p := hA0
  have hV : DataW.TrodVars enc Tryd.prog W (fun _ => true) ["loop.example/g00025/impl.errorTexts"] gs q := hV0
  rw [Tryd.params3] at hA hval
  obtain ⟨v0, vs0, d0, ds0, p0, q0, hargs, rfl, rfl, h0, r0⟩ := trodAll_cons hA
  obtain ⟨v1, vs1, d1, ds1, p1, q1, rfl, rfl, rfl, h1, r1⟩ := trodAll_cons r0
  obtain ⟨rfl, rfl, rfl⟩ := trodAll_nil r1
  obtain rfl : args = #[v0, v1] := by cases args; simp_all
  have k0 := h0
  have lt0 : ∀ x ∈ p0, x.block < W.heap.size := by obtain ⟨m, hm⟩ := k0; exact DataW.trod_lt m _ _ _ hm
  obtain ⟨cs0, rfl, hs0⟩ := okWide_struct Tryd.underlying24 (hval 0 24 v0 rfl rfl)
  obtain ⟨fuel0, hf0⟩ := h0
  obtain ⟨a0_0, a0_1, A0_2, c0_2, l0_2, hc0, w0_0_0, w0_1_0, w0_2_0, w0_2_1, w0_2_2⟩ := cells24 hf0
  obtain rfl : cs0 = #[.int .i64 a0_0, .int .i64 a0_1, .slice A0_2 l0_2.length c0_2] := Array.toList_inj.1 hc0
  have k1 := h1
  have lt1 : ∀ x ∈ p1, x.block < W.heap.size := by obtain ⟨m, hm⟩ := k1; exact DataW.trod_lt m _ _ _ hm
  obtain ⟨cs1, rfl, hs1⟩ := okWide_struct Tryd.underlying28 (hval 1 28 v1 rfl rfl)
  obtain ⟨fuel1, hf1⟩ := h1
  obtain ⟨A1_0, c1_0, l1_0, A1_1, c1_1, l1_1, A1_2, c1_2, l1_2, a1_3, hc1, w1_0_0, w1_0_1, w1_0_2, w1_1_0, w1_1_1, w1_1_2, w1_2_0, w1_2_1, w1_2_2⟩ := cells28 hf1
  obtain rfl : cs1 = #[.slice A1_0 l1_0.length c1_0, .slice A1_1 l1_1.length c1_1, .slice A1_2 l1_2.length c1_2, .bool a1_3] := Array.toList_inj.1 hc1
  have hcs := cells_of hL
  obtain ⟨gg0, tt0, ccs0, ff0, dd0, pp0, gs0, qq0, rfl, hg0, ht0, hvar0, hd0, hVr0, rfl⟩ := trodVars_cons hV
  obtain rfl := Option.some.inj (gT0.symm.trans hg0)
  obtain rfl := Option.some.inj (gTT0.symm.trans ht0)
  obtain rfl : ccs0 = cells0_ := Option.some.inj (hvar0.symm.trans hcs)
  obtain ⟨rfl, rfl⟩ := DataW.Trod.unique (v := .agg cells0_) ⟨ff0, hd0⟩ ⟨3, reads_table0 enc W _⟩
  have hlt0 : 0 < W.heap.size := World.block_lt_of_cell? W ⟨0, 0, none⟩ (World.var?_cell gT0 hvar0 0)
  obtain ⟨rfl, rfl⟩ := trodVars_none hVr0
  clear hA0 hV0 hval0
  have hT := tab_of hcs
  have hvars : ∀ W' : World, Below W.heap.size W W' → DataW.TrodVars enc Tryd.prog W' (fun b => decide (b < W.heap.size)) ["loop.example/g00025/impl.errorTexts"] [tableH0] (MemPlace.row ⟨0, 0, none⟩ cells0_.size ++ [] ++ []) := fun W' bel =>
    (trodVars_mkc gT0 gTT0 (var_below hvar0 gT0 bel hlt0) (reads_table0 enc W' _) trodVars_nil)
  obtain ⟨k, hk⟩ := Pure.FnExactGoodPivot a0_0 a0_1 l0_2 l1_0 l1_1 l1_2 a1_3 w0_0_0 w0_1_0 w0_2_2 w1_0_2 w1_1_2 w1_2_2
  refine (PFnExactGoodPivot.laws_FnExactGoodPivot.calls k a0_0 a0_1 A0_2 c0_2 l0_2 A1_0 c1_0 l1_0 A1_1 c1_1 l1_1 A1_2 c1_2 l1_2 a1_3 true W w0_2_1 w0_2_0 w1_0_1 w1_0_0 w1_1_1 w1_1_0 w1_2_1 w1_2_0 hT hk rfl).mono fun e W' ⟨he, bel⟩ => ?_
  subst he
  exact ⟨_, rfl, _, _, _, [], _, _, hW', trodAll_mk1 (shut_bool Tryd.underlying4 _), (trodAll_cons_mk (Below.trod laidOut (by kernel_rfl) (of_decide_eq_true (by kernel_rfl)) k0 bel lt0) (trodAll_cons_mk (Below.trod laidOut (by kernel_rfl) (of_decide_eq_true (by kernel_rfl)) k1 bel lt1) trodAll_mk0)), hvars _ bel, bel.frame _, fun h => by cases h⟩
theorem over : Rows.FnExactGoodPivotSaid :=
  OpenClaim.holds_of_wide 3 Tryd.f3 rfl rfl rfl rfl rfl rfl rfl ⟨rfl, rfl, rfl, rfl, rfl⟩ rfl rfl rfl rfl rfl (by kernel_rfl) Tryd.func3 (by kernel_rfl)
    (of_decide_eq_true (by kernel_rfl)) (by unfold Func.isWrapper; first | (rw [if_pos (by decide +kernel)]; kernel_rfl) | (rw [if_neg (by decide +kernel)]; exact ⟨rfl, rfl⟩))
    (fun os started H enc _ => lifted os started H enc)
theorem card : Rows.FnExactGoodPivotCardSaid :=
  Claim7.holds_tied_plain_at .later [] [.data] true (true, "dd1b1a20a4be130f01849f299c7b36fa3f5cb5b3d71fb95118d8020aa1f8eb24") true
    over (fun _ h => by cases h) (by kernel_rfl) (fun _ h => by cases h) fnExactGoodPivot_row_tie rfl ⟨rfl, rfl⟩ (by kernel_rfl) rfl
    (fun f fn hf hfn => by
      obtain rfl : f = 3 := Option.some.inj ((show Tryd.prog.funcNamed "loop.example/g00025/laws.FnExactGoodPivot" = some 3 by kernel_rfl).symm.trans hf) |>.symm
      obtain rfl : fn = Tryd.f3 := (Option.some.inj (Tryd.func3.symm.trans hfn)).symm
      exact ⟨by kernel_rfl, fun j t ht => by
        rw [Tryd.params3] at ht
        have hm : t ∈ [24, 28] := by simpa using Array.mem_of_getElem? ht
        have hall : ([24, 28].all fun u => !Tryd.prog.wantsStandIn u) = true := by kernel_rfl
        exact (show Tryd.prog.wantsStandIn t = false by simpa using List.all_eq_true.1 hall t hm)⟩)
    (by kernel_rfl)
#print axioms card
end Go.Proofs.YtjemnnndifeagaaDoor.fnExactGoodPivot
namespace Go.Proofs.YtjemnnndifeagaaDoor
theorem fnExactGoodPivot_holds : Rows.FnExactGoodPivotCardSaid := fnExactGoodPivot.card
end Go.Proofs.YtjemnnndifeagaaDoor
