/- The card of FnExactCellField: for every input the law returns true and the input reads as it did; the tables are what the program's text lays (tied). No further condition. -/
import Derived.Test.YtghglglbajnncaaDoorRows
import Derived.Test.YtghglglbajnncaaDoorTie
import Derived.Test.YtghglglbajnncaaDoorCards
import Derived.Test.YtghglglbajnncaaDoorMFnExactCellFielda10
import Derived.Test.YtghglglbajnncaaDoorPureFnExactCellField
import Derived.WalkKit
import Derived.ProofKit
import Derived.LaidMore
import Derived.OpenShut
import Derived.ShutString
import Derived.ChangeOld
import Derived.Below
import Derived.Stop.Joined
import Derived.ChangeVars
import Derived.Carry
import Derived.SizedLaws
import Derived.SevenTiedAt
namespace Go.Proofs.YtghglglbajnncaaDoor.fnExactCellField
open Go.ChangeShapes Go.WideShapes Go.ChangeAt Go.RowKit Go.Proofs.YtghglglbajnncaaDoorW.PrintWords Go.Proofs.YtghglglbajnncaaDoor.PFnExactCellField
open Go.ChangeMaps (open_string shut_string)
set_option linter.unusedVariables false
theorem own : ownKnob Tryd.prog.godebug = none := by kernel_rfl
theorem laidOut : laidOutB Tryd.prog = true := by kernel_rfl
/-- A plain table of whole numbers reads as its cells hold. -/
theorem ints_of_trod {H : Type} {enc : TypeId × Value → H} {P : Program} {w : World} {sp : Nat → Bool} {held : Bool} {fuel n : Nat} {K : IntKind} {t e : TypeId} {cs : List Value} {zs : List Int} {p : List MemPlace}
    (ht : P.underlying t = some (.array n e)) (he : P.underlying e = some (.int K)) (hc : P.cellsOf e = 1) (hct : P.cellsOf t = n) (hz : zs.length = n)
    (hd : DataW.trod enc P w 0 sp held fuel t cs = some (.agg (zs.map fun z => .lit (.int K z)), p)) : cs = zs.map fun z => .int K z := by
  obtain ⟨xs, m, _, hx, hl, hlen, hel⟩ := DataW.trod_array ht hd
  rw [hct] at hl
  simp only [Prod.mk.injEq, DataW.agg.injEq] at hx
  refine List.ext_getElem? fun i => ?_
  by_cases hi : i < n
  · have h1 := hel i hi
    rw [hc, Nat.mul_one, List.getElem?_eq_getElem (by omega)] at h1
    obtain ⟨k, e1, e2, _⟩ := DataW.trod_int he h1
    have h2 : (zs.map fun z => (DataW.lit (.int K z) : DataW H))[i]? = (xs.map (·.1))[i]? := by rw [hx.1]
    rw [List.getElem?_map, List.getElem?_map, List.getElem?_eq_getElem (by omega), List.getElem?_eq_getElem (by omega), e2] at h2
    simp only [Option.map_some, Option.some.injEq, DataW.lit.injEq, Lit.int.injEq, true_and] at h2
    rw [List.getElem?_map, List.getElem?_eq_getElem (by omega : i < zs.length)]
    have h3 : ((cs.drop i).take 1)[0]? = some (.int K k) := by rw [e1]; rfl
    rw [List.getElem?_take, if_pos (by omega), List.getElem?_drop] at h3
    simpa [h2] using h3
  · rw [List.getElem?_eq_none (by omega), List.getElem?_eq_none (by rw [List.length_map]; omega)]
theorem var_below {P : Program} {w w' : World} {n : String} {g : Nat} {cs : Array Value} (h : w.var? P n = some cs) (hg : P.globalNamed n = some g) (hb : Below w.heap.size w w') (hlt : g < w.heap.size) : w'.var? P n = some cs := by
  have e := hb.block g hlt
  simp only [World.var?, hg, Option.bind_some] at h ⊢
  rw [e]; exact h
/-- A plain table of texts reads as its cells hold. -/
theorem strs_of_trod {H : Type} {enc : TypeId × Value → H} {P : Program} {w : World} {sp : Nat → Bool} {held : Bool} {fuel n : Nat} {t e : TypeId} {cs : List Value} {zs : List (List UInt8)} {p : List MemPlace}
    (ht : P.underlying t = some (.array n e)) (he : P.underlying e = some .string) (hc : P.cellsOf e = 1) (hct : P.cellsOf t = n) (hz : zs.length = n)
    (hd : DataW.trod enc P w 0 sp held fuel t cs = some (.agg (zs.map fun z => .lit (.string z)), p)) : cs = zs.map fun z => .string ⟨⟨z⟩⟩ := by
  obtain ⟨xs, m, _, hx, hl, hlen, hel⟩ := DataW.trod_array ht hd
  rw [hct] at hl
  simp only [Prod.mk.injEq, DataW.agg.injEq] at hx
  refine List.ext_getElem? fun i => ?_
  by_cases hi : i < n
  · have h1 := hel i hi
    rw [hc, Nat.mul_one, List.getElem?_eq_getElem (by omega)] at h1
    obtain ⟨k, e1, e2, _⟩ := DataW.trod_string he h1
    have h2 : (zs.map fun z => (DataW.lit (.string z) : DataW H))[i]? = (xs.map (·.1))[i]? := by rw [hx.1]
    rw [List.getElem?_map, List.getElem?_map, List.getElem?_eq_getElem (by omega), List.getElem?_eq_getElem (by omega), e2] at h2
    simp only [Option.map_some, Option.some.injEq, DataW.lit.injEq, Lit.string.injEq] at h2
    rw [List.getElem?_map, List.getElem?_eq_getElem (by omega : i < zs.length)]
    have h3 : ((cs.drop i).take 1)[0]? = some (.string k) := by rw [e1]; rfl
    rw [List.getElem?_take, if_pos (by omega), List.getElem?_drop] at h3
    simpa [h2] using h3
  · rw [List.getElem?_eq_none (by omega), List.getElem?_eq_none (by rw [List.length_map]; omega)]
theorem trodVars_cons {H : Type} {enc : TypeId × Value → H} {P : Program} {w : World} {sp : Nat → Bool} {n : String} {ns : List String} {gs : List (DataW H)} {ps : List MemPlace} (h : DataW.TrodVars enc P w sp (n :: ns) gs ps) :
    ∃ g t cs fuel d p ds q, gs = d :: ds ∧ P.globalNamed n = some g ∧ (P.globals[g]?).map (·.type) = some t ∧ w.var? P n = some cs ∧ DataW.trod enc P w 0 sp true fuel t cs.toList = some (d, p) ∧ DataW.TrodVars enc P w sp ns ds q ∧ ps = MemPlace.row ⟨g, 0, none⟩ cs.size ++ p ++ q := by
  cases gs with
  | nil => simp [DataW.TrodVars] at h
  | cons d ds =>
    obtain ⟨g, t, cs, fuel, p, q, h1, h2, h3, h4, hs, e⟩ := h
    exact ⟨g, t, cs, fuel, d, p, ds, q, rfl, h1, h2, h3, h4, hs, e⟩
theorem trodVars_nil {H : Type} {enc : TypeId × Value → H} {P : Program} {w : World} {sp : Nat → Bool} : DataW.TrodVars enc P w sp [] [] [] := rfl
theorem trodVars_mkc {H : Type} {enc : TypeId × Value → H} {P : Program} {w : World} {sp : Nat → Bool} {n : String} {ns : List String} {g : Nat} {t : TypeId} {cs : Array Value} {fuel : Nat} {d : DataW H} {ds : List (DataW H)} {p q : List MemPlace}
    (h1 : P.globalNamed n = some g) (h2 : (P.globals[g]?).map (·.type) = some t) (h3 : w.var? P n = some cs) (h4 : DataW.trod enc P w 0 sp true fuel t cs.toList = some (d, p)) (hs : DataW.TrodVars enc P w sp ns ds q) :
    DataW.TrodVars enc P w sp (n :: ns) (d :: ds) (MemPlace.row ⟨g, 0, none⟩ cs.size ++ p ++ q) := ⟨g, t, cs, fuel, p, q, h1, h2, h3, h4, hs, rfl⟩
theorem gT0 : Tryd.prog.globalNamed "math/bits.deBruijn32tab" = some 6 := by kernel_rfl
theorem gTT0 : (Tryd.prog.globals[6]?).map (·.type) = some 155 := by kernel_rfl
def zs0 : List Int := [0, 1, 28, 2, 29, 14, 24, 3, 30, 22, 20, 15, 25, 17, 4, 8, 31, 27, 13, 23, 21, 19, 16, 7, 26, 12, 18, 6, 11, 5, 10, 9]
def cells0_ : Array Value := #[.int .u8 0, .int .u8 1, .int .u8 28, .int .u8 2, .int .u8 29, .int .u8 14, .int .u8 24, .int .u8 3, .int .u8 30, .int .u8 22, .int .u8 20, .int .u8 15, .int .u8 25, .int .u8 17, .int .u8 4, .int .u8 8, .int .u8 31, .int .u8 27, .int .u8 13, .int .u8 23, .int .u8 21, .int .u8 19, .int .u8 16, .int .u8 7, .int .u8 26, .int .u8 12, .int .u8 18, .int .u8 6, .int .u8 11, .int .u8 5, .int .u8 10, .int .u8 9]
theorem gT1 : Tryd.prog.globalNamed "math/bits.deBruijn64tab" = some 7 := by kernel_rfl
theorem gTT1 : (Tryd.prog.globals[7]?).map (·.type) = some 156 := by kernel_rfl
def zs1 : List Int := [0, 1, 56, 2, 57, 49, 28, 3, 61, 58, 42, 50, 38, 29, 17, 4, 62, 47, 59, 36, 45, 43, 51, 22, 53, 39, 33, 30, 24, 18, 12, 5, 63, 55, 48, 27, 60, 41, 37, 16, 46, 35, 44, 21, 52, 32, 23, 11, 54, 26, 40, 15, 34, 20, 31, 10, 25, 14, 19, 9, 13, 8, 7, 6]
def cells1_ : Array Value := #[.int .u8 0, .int .u8 1, .int .u8 56, .int .u8 2, .int .u8 57, .int .u8 49, .int .u8 28, .int .u8 3, .int .u8 61, .int .u8 58, .int .u8 42, .int .u8 50, .int .u8 38, .int .u8 29, .int .u8 17, .int .u8 4, .int .u8 62, .int .u8 47, .int .u8 59, .int .u8 36, .int .u8 45, .int .u8 43, .int .u8 51, .int .u8 22, .int .u8 53, .int .u8 39, .int .u8 33, .int .u8 30, .int .u8 24, .int .u8 18, .int .u8 12, .int .u8 5, .int .u8 63, .int .u8 55, .int .u8 48, .int .u8 27, .int .u8 60, .int .u8 41, .int .u8 37, .int .u8 16, .int .u8 46, .int .u8 35, .int .u8 44, .int .u8 21, .int .u8 52, .int .u8 32, .int .u8 23, .int .u8 11, .int .u8 54, .int .u8 26, .int .u8 40, .int .u8 15, .int .u8 34, .int .u8 20, .int .u8 31, .int .u8 10, .int .u8 25, .int .u8 14, .int .u8 19, .int .u8 9, .int .u8 13, .int .u8 8, .int .u8 7, .int .u8 6]
theorem gT2 : Tryd.prog.globalNamed "internal/strconv.uint64pow10" = some 5 := by kernel_rfl
theorem gTT2 : (Tryd.prog.globals[5]?).map (·.type) = some 151 := by kernel_rfl
def zs2 : List Int := [1, 10, 100, 1000, 10000, 100000, 1000000, 10000000, 100000000, 1000000000, 10000000000, 100000000000, 1000000000000, 10000000000000, 100000000000000, 1000000000000000, 10000000000000000, 100000000000000000, 1000000000000000000, 10000000000000000000]
def cells2_ : Array Value := #[.int .u64 1, .int .u64 10, .int .u64 100, .int .u64 1000, .int .u64 10000, .int .u64 100000, .int .u64 1000000, .int .u64 10000000, .int .u64 100000000, .int .u64 1000000000, .int .u64 10000000000, .int .u64 100000000000, .int .u64 1000000000000, .int .u64 10000000000000, .int .u64 100000000000000, .int .u64 1000000000000000, .int .u64 10000000000000000, .int .u64 100000000000000000, .int .u64 1000000000000000000, .int .u64 10000000000000000000]
theorem gT3 : Tryd.prog.globalNamed "loop.example/g00025/impl.errorTexts" = some 0 := by kernel_rfl
theorem gTT3 : (Tryd.prog.globals[0]?).map (·.type) = some 101 := by kernel_rfl
def zs3 : List (List UInt8) := [[35, 78, 85, 76, 76, 33], [35, 68, 73, 86, 47, 48, 33], [35, 86, 65, 76, 85, 69, 33], [35, 82, 69, 70, 33], [35, 78, 65, 77, 69, 63], [35, 78, 85, 77, 33], [35, 78, 47, 65], [35, 83, 80, 73, 76, 76, 33], [35, 67, 89, 67, 76, 69, 33]]
def cells3_ : Array Value := #[.string ⟨⟨[35, 78, 85, 76, 76, 33]⟩⟩, .string ⟨⟨[35, 68, 73, 86, 47, 48, 33]⟩⟩, .string ⟨⟨[35, 86, 65, 76, 85, 69, 33]⟩⟩, .string ⟨⟨[35, 82, 69, 70, 33]⟩⟩, .string ⟨⟨[35, 78, 65, 77, 69, 63]⟩⟩, .string ⟨⟨[35, 78, 85, 77, 33]⟩⟩, .string ⟨⟨[35, 78, 47, 65]⟩⟩, .string ⟨⟨[35, 83, 80, 73, 76, 76, 33]⟩⟩, .string ⟨⟨[35, 67, 89, 67, 76, 69, 33]⟩⟩]
theorem door_met (os : Os) (args : Array Value) : laidMetH Tryd.prog Rows.fnExactCellFieldRow.laid ((World.doorLaid Tryd.prog 400 os).forCall (fun _ _ => 0) ⟨#[], args, []⟩).memory :=
  laidMetH_of_parts3 (fuel := 8) (laidMet_of_run' 8 (by kernel_rfl) (by kernel_rfl)) (by kernel_rfl) (by kernel_rfl)
theorem cells_of {W : World} (h : laidMetH Tryd.prog Rows.fnExactCellFieldRow.laid W) : W.var? Tryd.prog "math/bits.deBruijn32tab" = some cells0_ ∧ W.var? Tryd.prog "math/bits.deBruijn64tab" = some cells1_ ∧ W.var? Tryd.prog "internal/strconv.uint64pow10" = some cells2_ ∧ W.var? Tryd.prog "loop.example/g00025/impl.errorTexts" = some cells3_ := by
  rw [MakeChecks.laidMetH_plain _ _ _ (by kernel_rfl)] at h
  obtain ⟨ps, ⟨g0, t0, cs0, fuel0, p0, q0, hg0, ht0, hvar0, hd0, ⟨g1, t1, cs1, fuel1, p1, q1, hg1, ht1, hvar1, hd1, ⟨g2, t2, cs2, fuel2, p2, q2, hg2, ht2, hvar2, hd2, ⟨g3, t3, cs3, fuel3, p3, q3, hg3, ht3, hvar3, hd3, _, _⟩, _⟩, _⟩, _⟩, _⟩ := h
  obtain rfl := Option.some.inj (gT0.symm.trans hg0)
  obtain rfl := Option.some.inj (gTT0.symm.trans ht0)
  have e0 : cs0 = cells0_ := Array.toList_inj.1 (ints_of_trod (K := .u8) (zs := zs0) Tryd.underlying155 Tryd.underlying5 (by kernel_rfl) (by kernel_rfl) rfl hd0)
  obtain rfl := Option.some.inj (gT1.symm.trans hg1)
  obtain rfl := Option.some.inj (gTT1.symm.trans ht1)
  have e1 : cs1 = cells1_ := Array.toList_inj.1 (ints_of_trod (K := .u8) (zs := zs1) Tryd.underlying156 Tryd.underlying5 (by kernel_rfl) (by kernel_rfl) rfl hd1)
  obtain rfl := Option.some.inj (gT2.symm.trans hg2)
  obtain rfl := Option.some.inj (gTT2.symm.trans ht2)
  have e2 : cs2 = cells2_ := Array.toList_inj.1 (ints_of_trod (K := .u64) (zs := zs2) Tryd.underlying151 Tryd.underlying105 (by kernel_rfl) (by kernel_rfl) rfl hd2)
  obtain rfl := Option.some.inj (gT3.symm.trans hg3)
  obtain rfl := Option.some.inj (gTT3.symm.trans ht3)
  have e3 : cs3 = cells3_ := Array.toList_inj.1 (strs_of_trod (zs := zs3) Tryd.underlying101 Tryd.underlying9 (by kernel_rfl) (by kernel_rfl) rfl hd3)
  exact ⟨hvar0.trans (congrArg some e0), hvar1.trans (congrArg some e1), hvar2.trans (congrArg some e2), hvar3.trans (congrArg some e3)⟩
abbrev tableH0 {H : Type} : DataW H := Rows.laid_math_bits_deBruijn32tab
theorem reads_table0 {H : Type} (enc : TypeId × Value → H) (W : World) (sp : Nat → Bool) : DataW.trod enc Tryd.prog W 0 sp true 3 155 cells0_.toList = some (tableH0, []) := by kernel_rfl
abbrev tableH1 {H : Type} : DataW H := Rows.laid_math_bits_deBruijn64tab
theorem reads_table1 {H : Type} (enc : TypeId × Value → H) (W : World) (sp : Nat → Bool) : DataW.trod enc Tryd.prog W 0 sp true 3 156 cells1_.toList = some (tableH1, []) := by kernel_rfl
abbrev tableH2 {H : Type} : DataW H := Rows.laid_internal_strconv_uint64pow10
theorem reads_table2 {H : Type} (enc : TypeId × Value → H) (W : World) (sp : Nat → Bool) : DataW.trod enc Tryd.prog W 0 sp true 3 151 cells2_.toList = some (tableH2, []) := by kernel_rfl
abbrev tableH3 {H : Type} : DataW H := Rows.laid_loop_example_g00025_impl_errorTexts
theorem reads_table3 {H : Type} (enc : TypeId × Value → H) (W : World) (sp : Nat → Bool) : DataW.trod enc Tryd.prog W 0 sp true 3 101 cells3_.toList = some (tableH3, []) := by kernel_rfl
theorem TabE_of {W : World} (h : W.var? Tryd.prog "loop.example/g00025/impl.errorTexts" = some cells3_) : PFnExactCellField.TabE W := by
  intro m h1
  rw [World.var?_cell gT3 h]
  rcases (by omega : m = 0 ∨ m = 1 ∨ m = 2 ∨ m = 3 ∨ m = 4 ∨ m = 5 ∨ m = 6 ∨ m = 7 ∨ m = 8) with rfl | rfl | rfl | rfl | rfl | rfl | rfl | rfl | rfl <;> rfl
theorem TabP_of {W : World} (h : W.var? Tryd.prog "internal/strconv.uint64pow10" = some cells2_) : PFnExactCellField.TabP W := h.trans (congrArg some (by kernel_rfl))
theorem tab_of {W : World} (h : W.var? Tryd.prog "math/bits.deBruijn32tab" = some cells0_ ∧ W.var? Tryd.prog "math/bits.deBruijn64tab" = some cells1_ ∧ W.var? Tryd.prog "internal/strconv.uint64pow10" = some cells2_ ∧ W.var? Tryd.prog "loop.example/g00025/impl.errorTexts" = some cells3_) : PFnExactCellField.Tab W := ⟨TabE_of h.2.2.2, TabP_of h.2.2.1⟩
theorem list3 {l : List Value} (h : l.length = 3) : ∃ c0 c1 c2, l = [c0, c1, c2] := by
  match l, h with
  | [c0, c1, c2], _ => exact ⟨c0, c1, c2, rfl⟩
theorem list5 {l : List Value} (h : l.length = 5) : ∃ c0 c1 c2 c3 c4, l = [c0, c1, c2, c3, c4] := by
  match l, h with
  | [c0, c1, c2, c3, c4], _ => exact ⟨c0, c1, c2, c3, c4, rfl⟩
theorem cells23 {H : Type} {enc : TypeId × Value → H} {W : World} {sp : Nat → Bool} {fuel : Nat} {cs : List Value} {x : DataW H × List MemPlace} (h : DataW.trod enc Tryd.prog W 0 sp true fuel 23 cs = some x) :
    ∃ (a_0 : Bool) (a_1 : Int) (a_2 : Int), cs = [.bool a_0, .int .i64 a_1, .int .i64 a_2] ∧ (Lit.int .i64 a_1).wf = true ∧ (Lit.int .i64 a_2).wf = true := by
  obtain ⟨xs, n, _, rfl, hl, hlen, hf⟩ := DataW.trod_struct Tryd.underlying23 h
  have hc : Tryd.prog.cellsOf 23 = 3 := by kernel_rfl
  rw [hc] at hl
  obtain ⟨y0, y1, y2, rfl⟩ := list3 hl
  replace hlen : xs.length = 3 := hlen
  have k0 : Tryd.prog.cellsOf 4 = 1 := by kernel_rfl
  have g0 := hf 0 _ rfl
  rw [List.getElem?_eq_getElem (by omega)] at g0
  replace g0 : DataW.trod enc Tryd.prog W 0 sp true n 4 (([y0, y1, y2].drop 0).take (Tryd.prog.cellsOf 4)) = some _ := g0
  rw [k0] at g0
  replace g0 : DataW.trod enc Tryd.prog W 0 sp true n 4 [y0] = some _ := g0
  have k1 : Tryd.prog.cellsOf 3 = 1 := by kernel_rfl
  have g1 := hf 1 _ rfl
  rw [List.getElem?_eq_getElem (by omega)] at g1
  replace g1 : DataW.trod enc Tryd.prog W 0 sp true n 3 (([y0, y1, y2].drop 1).take (Tryd.prog.cellsOf 3)) = some _ := g1
  rw [k1] at g1
  replace g1 : DataW.trod enc Tryd.prog W 0 sp true n 3 [y1] = some _ := g1
  have k2 : Tryd.prog.cellsOf 3 = 1 := by kernel_rfl
  have g2 := hf 2 _ rfl
  rw [List.getElem?_eq_getElem (by omega)] at g2
  replace g2 : DataW.trod enc Tryd.prog W 0 sp true n 3 (([y0, y1, y2].drop 2).take (Tryd.prog.cellsOf 3)) = some _ := g2
  rw [k2] at g2
  replace g2 : DataW.trod enc Tryd.prog W 0 sp true n 3 [y2] = some _ := g2
  obtain ⟨b0, e0, _⟩ := DataW.trod_bool Tryd.underlying4 g0
  simp only [List.cons.injEq, and_true] at e0
  subst e0
  obtain ⟨b1, e1, _, w1⟩ := DataW.trod_int Tryd.underlying3 g1
  simp only [List.cons.injEq, and_true] at e1
  subst e1
  obtain ⟨b2, e2, _, w2⟩ := DataW.trod_int Tryd.underlying3 g2
  simp only [List.cons.injEq, and_true] at e2
  subst e2
  exact ⟨b0, b1, b2, rfl, w1, w2⟩
theorem cells25 {H : Type} {enc : TypeId × Value → H} {W : World} {sp : Nat → Bool} {fuel : Nat} {cs : List Value} {x : DataW H × List MemPlace} (h : DataW.trod enc Tryd.prog W 0 sp true fuel 25 cs = some x) :
    ∃ (a_0 : Int) (a_1_0 : Bool) (a_1_1 : Int) (a_1_2 : Int) (a_2 : ByteArray), cs = [.int .i64 a_0, .bool a_1_0, .int .i64 a_1_1, .int .i64 a_1_2, .string a_2] ∧ (Lit.int .i64 a_0).wf = true ∧ (Lit.int .i64 a_1_1).wf = true ∧ (Lit.int .i64 a_1_2).wf = true ∧ a_2.size ≤ maxLen := by
  obtain ⟨xs, n, _, rfl, hl, hlen, hf⟩ := DataW.trod_struct Tryd.underlying25 h
  have hc : Tryd.prog.cellsOf 25 = 5 := by kernel_rfl
  rw [hc] at hl
  obtain ⟨y0, y1, y2, y3, y4, rfl⟩ := list5 hl
  replace hlen : xs.length = 3 := hlen
  have k0 : Tryd.prog.cellsOf 3 = 1 := by kernel_rfl
  have g0 := hf 0 _ rfl
  rw [List.getElem?_eq_getElem (by omega)] at g0
  replace g0 : DataW.trod enc Tryd.prog W 0 sp true n 3 (([y0, y1, y2, y3, y4].drop 0).take (Tryd.prog.cellsOf 3)) = some _ := g0
  rw [k0] at g0
  replace g0 : DataW.trod enc Tryd.prog W 0 sp true n 3 [y0] = some _ := g0
  have k1 : Tryd.prog.cellsOf 23 = 3 := by kernel_rfl
  have g1 := hf 1 _ rfl
  rw [List.getElem?_eq_getElem (by omega)] at g1
  replace g1 : DataW.trod enc Tryd.prog W 0 sp true n 23 (([y0, y1, y2, y3, y4].drop 1).take (Tryd.prog.cellsOf 23)) = some _ := g1
  rw [k1] at g1
  replace g1 : DataW.trod enc Tryd.prog W 0 sp true n 23 [y1, y2, y3] = some _ := g1
  have k2 : Tryd.prog.cellsOf 9 = 1 := by kernel_rfl
  have g2 := hf 2 _ rfl
  rw [List.getElem?_eq_getElem (by omega)] at g2
  replace g2 : DataW.trod enc Tryd.prog W 0 sp true n 9 (([y0, y1, y2, y3, y4].drop 4).take (Tryd.prog.cellsOf 9)) = some _ := g2
  rw [k2] at g2
  replace g2 : DataW.trod enc Tryd.prog W 0 sp true n 9 [y4] = some _ := g2
  obtain ⟨b0, e0, _, w0⟩ := DataW.trod_int Tryd.underlying3 g0
  simp only [List.cons.injEq, and_true] at e0
  subst e0
  obtain ⟨b1_0, b1_1, b1_2, e1, w1_1_0, w1_2_0⟩ := cells23 g1
  simp only [List.cons.injEq, and_true] at e1
  obtain ⟨rfl, rfl, rfl⟩ := e1
  obtain ⟨b2, e2, _, w2⟩ := DataW.trod_string Tryd.underlying9 g2
  simp only [List.cons.injEq, and_true] at e2
  subst e2
  exact ⟨b0, b1_0, b1_1, b1_2, b2, rfl, w0, w1_1_0, w1_2_0, w2⟩
set_option maxRecDepth 100000 in
theorem lifted (os : Os) (started : os.Started) (H : Type) (enc : TypeId × Value → H) :
    ReturnsInHanded {} Tryd.checked os 4 .any (fun w args => (Rows.fnExactCellFieldSpec.pre enc Tryd.prog Tryd.f4 [] false w args ∧ laidMetH Tryd.prog Rows.fnExactCellFieldRow.laid w) ∧ sizedMet enc Tryd.prog Tryd.f4 (OpenSpec.ofChange Rows.fnExactCellFieldSpec) false w args)
      (Rows.fnExactCellFieldSpec.post enc Tryd.prog Tryd.f4 false true false false) := by
  refine returnsInHanded_of_change_and (C := Tryd.checked) (X := fun w _ => laidMetH Tryd.prog Rows.fnExactCellFieldRow.laid w) (fun _ _ _ hh h => h.of_heap hh) own started (by kernel_rfl) Tryd.func4
    (ChangeSpec.witness_shaped (enc := enc) (C := Tryd.checked) (os := os) (X := fun w _ => laidMetH Tryd.prog Rows.fnExactCellFieldRow.laid w) false (World.doorLaid Tryd.prog 400 os) #[.agg #[.int .i64 0, .bool false, .int .i64 0, .int .i64 0, .string ⟨#[]⟩], .int .i64 0] 8 rfl (World.shaped_of_RefB (by kernel_rfl) (by kernel_rfl)) (by kernel_rfl) (by kernel_rfl) (by kernel_rfl) (door_met os _)) ?_
  intro W base args ds gs before hval0 hW _ _ hL _
  have hval : ∀ (j : Nat) t v, Tryd.f4.params[j]? = some t → args[j]? = some v → Value.okWide Tryd.prog W .any base t v := hval0
  have hW' := hW
  obtain ⟨p, q, hA0, hV0, rfl, hfz, hnd⟩ := hW
  have hA : DataW.TrodAll enc Tryd.prog W 0 (fun _ => true) true Tryd.f4.params.toList args.toList ds p := hA0
  have hV : DataW.TrodVars enc Tryd.prog W (fun _ => true) ["loop.example/g00025/impl.errorTexts"] gs q := hV0
  rw [Tryd.params4] at hA hval
  obtain ⟨v0, vs0, d0, ds0, p0, q0, hargs, rfl, rfl, h0, r0⟩ := trodAll_cons hA
  obtain ⟨v1, vs1, d1, ds1, p1, q1, rfl, rfl, rfl, h1, r1⟩ := trodAll_cons r0
  obtain ⟨rfl, rfl, rfl⟩ := trodAll_nil r1
  obtain rfl : args = #[v0, v1] := by cases args; simp_all
  have k0 := h0
  have lt0 : ∀ x ∈ p0, x.block < W.heap.size := by obtain ⟨m, hm⟩ := k0; exact DataW.trod_lt m _ _ _ hm
  obtain ⟨cs0, rfl, hs0⟩ := okWide_struct Tryd.underlying25 (hval 0 25 v0 rfl rfl)
  obtain ⟨fuel0, hf0⟩ := h0
  obtain ⟨a0_0, a0_1, a0_2, a0_3, a0_4, hc0, w0_0_0, w0_2_0, w0_3_0, w0_4_0⟩ := cells25 hf0
  obtain rfl : cs0 = #[.int .i64 a0_0, .bool a0_1, .int .i64 a0_2, .int .i64 a0_3, .string a0_4] := Array.toList_inj.1 hc0
  have k1 := h1
  have lt1 : ∀ x ∈ p1, x.block < W.heap.size := by obtain ⟨m, hm⟩ := k1; exact DataW.trod_lt m _ _ _ hm
  obtain ⟨a1, rfl, rfl, rfl, w1⟩ := open_int Tryd.underlying3 (hval 1 3 v1 rfl rfl) h1
  have hcs := cells_of hL
  obtain ⟨gg0, tt0, ccs0, ff0, dd0, pp0, gs0, qq0, rfl, hg0, ht0, hvar0, hd0, hVr0, rfl⟩ := trodVars_cons hV
  obtain rfl := Option.some.inj (gT3.symm.trans hg0)
  obtain rfl := Option.some.inj (gTT3.symm.trans ht0)
  obtain rfl : ccs0 = cells3_ := Option.some.inj (hvar0.symm.trans hcs.2.2.2)
  obtain ⟨rfl, rfl⟩ := DataW.Trod.unique (v := .agg cells3_) ⟨ff0, hd0⟩ ⟨3, reads_table3 enc W _⟩
  have hlt0 : 0 < W.heap.size := World.block_lt_of_cell? W ⟨0, 0, none⟩ (World.var?_cell gT3 hvar0 0)
  obtain ⟨rfl, rfl⟩ := trodVars_none hVr0
  clear hA0 hV0 hval0
  have hT := tab_of hcs
  have hvars : ∀ W' : World, Below W.heap.size W W' → DataW.TrodVars enc Tryd.prog W' (fun b => decide (b < W.heap.size)) ["loop.example/g00025/impl.errorTexts"] [tableH3] (MemPlace.row ⟨0, 0, none⟩ cells3_.size ++ [] ++ []) := fun W' bel =>
    (trodVars_mkc gT3 gTT3 (var_below hvar0 gT3 bel hlt0) (reads_table3 enc W' _) trodVars_nil)
  obtain ⟨k, hk⟩ := Pure.FnExactCellField a0_0 a0_1 a0_2 a0_3 a0_4 a1 w0_0_0 w0_2_0 w0_3_0 w0_4_0 w1
  refine (PFnExactCellField.laws_FnExactCellField.calls k a0_0 a0_1 a0_2 a0_3 a0_4 a1 true W  hT hk).mono fun e W' ⟨he, bel⟩ => ?_
  subst he
  exact ⟨_, rfl, _, _, _, [], _, _, hW', trodAll_mk1 (shut_bool Tryd.underlying4 _), (trodAll_cons_mk (Below.trod laidOut (by kernel_rfl) (of_decide_eq_true (by kernel_rfl)) k0 bel lt0) (trodAll_cons_mk (Below.trod laidOut (by kernel_rfl) (of_decide_eq_true (by kernel_rfl)) k1 bel lt1) trodAll_mk0)), hvars _ bel, bel.frame _, fun h => by cases h⟩
theorem over : Rows.FnExactCellFieldSaid :=
  OpenClaim.holds_of_wide 4 Tryd.f4 rfl rfl rfl rfl rfl rfl rfl ⟨rfl, rfl, rfl, rfl, rfl⟩ rfl rfl rfl rfl rfl (by kernel_rfl) Tryd.func4 (by kernel_rfl)
    (of_decide_eq_true (by kernel_rfl)) (by unfold Func.isWrapper; first | (rw [if_pos (by decide +kernel)]; kernel_rfl) | (rw [if_neg (by decide +kernel)]; exact ⟨rfl, rfl⟩))
    (fun os started H enc _ => lifted os started H enc)
theorem card : Rows.FnExactCellFieldCardSaid :=
  Claim7.holds_tied_plain_at .later [] [.data, .data, .data, .data] true (true, "1e35e32371b4654bd2de62f221f74662d1114a3130249dbc54a46f35977d66ae") true
    over (fun _ h => by cases h) (by kernel_rfl) (fun _ h => by cases h) fnExactCellField_row_tie rfl ⟨rfl, rfl⟩ (by kernel_rfl) rfl
    (fun f fn hf hfn => by
      obtain rfl : f = 4 := Option.some.inj ((show Tryd.prog.funcNamed "loop.example/g00025/laws.FnExactCellField" = some 4 by kernel_rfl).symm.trans hf) |>.symm
      obtain rfl : fn = Tryd.f4 := (Option.some.inj (Tryd.func4.symm.trans hfn)).symm
      exact ⟨by kernel_rfl, fun j t ht => by
        rw [Tryd.params4] at ht
        have hm : t ∈ [25, 3] := by simpa using Array.mem_of_getElem? ht
        have hall : ([25, 3].all fun u => !Tryd.prog.wantsStandIn u) = true := by kernel_rfl
        exact (show Tryd.prog.wantsStandIn t = false by simpa using List.all_eq_true.1 hall t hm)⟩)
    (by kernel_rfl)
#print axioms card
end Go.Proofs.YtghglglbajnncaaDoor.fnExactCellField
namespace Go.Proofs.YtghglglbajnncaaDoor
theorem fnExactCellField_holds : Rows.FnExactCellFieldCardSaid := fnExactCellField.card
end Go.Proofs.YtghglglbajnncaaDoor
