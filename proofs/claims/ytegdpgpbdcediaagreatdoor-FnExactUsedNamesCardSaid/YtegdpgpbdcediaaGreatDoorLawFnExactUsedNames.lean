/- The card of FnExactUsedNames: for every input the law returns true and the input reads as it did; the tables are what the program's text lays (tied). No further condition. -/
import Derived.Test.YtegdpgpbdcediaaGreatDoorRows
import Derived.Test.YtegdpgpbdcediaaGreatDoorTie
import Derived.Test.YtegdpgpbdcediaaGreatDoorCards
import Derived.Test.YtegdpgpbdcediaaGreatDoorMFnExactUsedNamesa19
import Derived.Test.YtegdpgpbdcediaaGreatDoorRFnExactUsedNames
import Derived.Test.YtegdpgpbdcediaaGreatDoorPureFnExactUsedNames
import Derived.WalkKit
import Derived.ProofKit
import Derived.LaidMore
import Derived.OpenShut
import Derived.ShutString
import Derived.ChangeOld
import Derived.Below
import Derived.Stop.Joined
import Derived.ChangeVars
import Derived.Carry
import Derived.SizedLaws
import Derived.SevenTiedAt
import Derived.Stop.LaidErr
import Derived.LaidLaws
namespace Go.Proofs.YtegdpgpbdcediaaGreatDoor.fnExactUsedNames
open Go.ChangeShapes Go.WideShapes Go.ChangeAt Go.RowKit Go.Proofs.YtegdpgpbdcediaaGreatDoorW.PrintWords Go.Proofs.YtegdpgpbdcediaaGreatDoor.PFnExactUsedNames
open Go.ChangeMaps (open_string shut_string)
set_option linter.unusedVariables false
theorem own : ownKnob Tryz.prog.godebug = none := by kernel_rfl
theorem laidOut : laidOutB Tryz.prog = true := by kernel_rfl
/-- A plain table of whole numbers reads as its cells hold. -/
theorem ints_of_trod {H : Type} {enc : TypeId × Value → H} {P : Program} {w : World} {sp : Nat → Bool} {held : Bool} {fuel n : Nat} {K : IntKind} {t e : TypeId} {cs : List Value} {zs : List Int} {p : List MemPlace}
    (ht : P.underlying t = some (.array n e)) (he : P.underlying e = some (.int K)) (hc : P.cellsOf e = 1) (hct : P.cellsOf t = n) (hz : zs.length = n)
    (hd : DataW.trod enc P w 0 sp held fuel t cs = some (.agg (zs.map fun z => .lit (.int K z)), p)) : cs = zs.map fun z => .int K z := by
  obtain ⟨xs, m, _, hx, hl, hlen, hel⟩ := DataW.trod_array ht hd
  rw [hct] at hl
  simp only [Prod.mk.injEq, DataW.agg.injEq] at hx
  refine List.ext_getElem? fun i => ?_
  by_cases hi : i < n
  · have h1 := hel i hi
    rw [hc, Nat.mul_one, List.getElem?_eq_getElem (by omega)] at h1
    obtain ⟨k, e1, e2, _⟩ := DataW.trod_int he h1
    have h2 : (zs.map fun z => (DataW.lit (.int K z) : DataW H))[i]? = (xs.map (·.1))[i]? := by rw [hx.1]
    rw [List.getElem?_map, List.getElem?_map, List.getElem?_eq_getElem (by omega), List.getElem?_eq_getElem (by omega), e2] at h2
    simp only [Option.map_some, Option.some.injEq, DataW.lit.injEq, Lit.int.injEq, true_and] at h2
    rw [List.getElem?_map, List.getElem?_eq_getElem (by omega : i < zs.length)]
    have h3 : ((cs.drop i).take 1)[0]? = some (.int K k) := by rw [e1]; rfl
    rw [List.getElem?_take, if_pos (by omega), List.getElem?_drop] at h3
    simpa [h2] using h3
  · rw [List.getElem?_eq_none (by omega), List.getElem?_eq_none (by rw [List.length_map]; omega)]
theorem var_below {P : Program} {w w' : World} {n : String} {g : Nat} {cs : Array Value} (h : w.var? P n = some cs) (hg : P.globalNamed n = some g) (hb : Below w.heap.size w w') (hlt : g < w.heap.size) : w'.var? P n = some cs := by
  have e := hb.block g hlt
  simp only [World.var?, hg, Option.bind_some] at h ⊢
  rw [e]; exact h
/-- A plain table of texts reads as its cells hold. -/
theorem strs_of_trod {H : Type} {enc : TypeId × Value → H} {P : Program} {w : World} {sp : Nat → Bool} {held : Bool} {fuel n : Nat} {t e : TypeId} {cs : List Value} {zs : List (List UInt8)} {p : List MemPlace}
    (ht : P.underlying t = some (.array n e)) (he : P.underlying e = some .string) (hc : P.cellsOf e = 1) (hct : P.cellsOf t = n) (hz : zs.length = n)
    (hd : DataW.trod enc P w 0 sp held fuel t cs = some (.agg (zs.map fun z => .lit (.string z)), p)) : cs = zs.map fun z => .string ⟨⟨z⟩⟩ := by
  obtain ⟨xs, m, _, hx, hl, hlen, hel⟩ := DataW.trod_array ht hd
  rw [hct] at hl
  simp only [Prod.mk.injEq, DataW.agg.injEq] at hx
  refine List.ext_getElem? fun i => ?_
  by_cases hi : i < n
  · have h1 := hel i hi
    rw [hc, Nat.mul_one, List.getElem?_eq_getElem (by omega)] at h1
    obtain ⟨k, e1, e2, _⟩ := DataW.trod_string he h1
    have h2 : (zs.map fun z => (DataW.lit (.string z) : DataW H))[i]? = (xs.map (·.1))[i]? := by rw [hx.1]
    rw [List.getElem?_map, List.getElem?_map, List.getElem?_eq_getElem (by omega), List.getElem?_eq_getElem (by omega), e2] at h2
    simp only [Option.map_some, Option.some.injEq, DataW.lit.injEq, Lit.string.injEq] at h2
    rw [List.getElem?_map, List.getElem?_eq_getElem (by omega : i < zs.length)]
    have h3 : ((cs.drop i).take 1)[0]? = some (.string k) := by rw [e1]; rfl
    rw [List.getElem?_take, if_pos (by omega), List.getElem?_drop] at h3
    simpa [h2] using h3
  · rw [List.getElem?_eq_none (by omega), List.getElem?_eq_none (by rw [List.length_map]; omega)]
theorem trodVars_cons {H : Type} {enc : TypeId × Value → H} {P : Program} {w : World} {sp : Nat → Bool} {n : String} {ns : List String} {gs : List (DataW H)} {ps : List MemPlace} (h : DataW.TrodVars enc P w sp (n :: ns) gs ps) :
    ∃ g t cs fuel d p ds q, gs = d :: ds ∧ P.globalNamed n = some g ∧ (P.globals[g]?).map (·.type) = some t ∧ w.var? P n = some cs ∧ DataW.trod enc P w 0 sp true fuel t cs.toList = some (d, p) ∧ DataW.TrodVars enc P w sp ns ds q ∧ ps = MemPlace.row ⟨g, 0, none⟩ cs.size ++ p ++ q := by
  cases gs with
  | nil => simp [DataW.TrodVars] at h
  | cons d ds =>
    obtain ⟨g, t, cs, fuel, p, q, h1, h2, h3, h4, hs, e⟩ := h
    exact ⟨g, t, cs, fuel, d, p, ds, q, rfl, h1, h2, h3, h4, hs, e⟩
theorem trodVars_nil {H : Type} {enc : TypeId × Value → H} {P : Program} {w : World} {sp : Nat → Bool} : DataW.TrodVars enc P w sp [] [] [] := rfl
theorem trodVars_mkc {H : Type} {enc : TypeId × Value → H} {P : Program} {w : World} {sp : Nat → Bool} {n : String} {ns : List String} {g : Nat} {t : TypeId} {cs : Array Value} {fuel : Nat} {d : DataW H} {ds : List (DataW H)} {p q : List MemPlace}
    (h1 : P.globalNamed n = some g) (h2 : (P.globals[g]?).map (·.type) = some t) (h3 : w.var? P n = some cs) (h4 : DataW.trod enc P w 0 sp true fuel t cs.toList = some (d, p)) (hs : DataW.TrodVars enc P w sp ns ds q) :
    DataW.TrodVars enc P w sp (n :: ns) (d :: ds) (MemPlace.row ⟨g, 0, none⟩ cs.size ++ p ++ q) := ⟨g, t, cs, fuel, p, q, h1, h2, h3, h4, hs, rfl⟩
theorem gT0 : Tryz.prog.globalNamed "math/bits.deBruijn32tab" = some 4 := by kernel_rfl
theorem gTT0 : (Tryz.prog.globals[4]?).map (·.type) = some 197 := by kernel_rfl
def zs0 : List Int := [0, 1, 28, 2, 29, 14, 24, 3, 30, 22, 20, 15, 25, 17, 4, 8, 31, 27, 13, 23, 21, 19, 16, 7, 26, 12, 18, 6, 11, 5, 10, 9]
def cells0_ : Array Value := #[.int .u8 0, .int .u8 1, .int .u8 28, .int .u8 2, .int .u8 29, .int .u8 14, .int .u8 24, .int .u8 3, .int .u8 30, .int .u8 22, .int .u8 20, .int .u8 15, .int .u8 25, .int .u8 17, .int .u8 4, .int .u8 8, .int .u8 31, .int .u8 27, .int .u8 13, .int .u8 23, .int .u8 21, .int .u8 19, .int .u8 16, .int .u8 7, .int .u8 26, .int .u8 12, .int .u8 18, .int .u8 6, .int .u8 11, .int .u8 5, .int .u8 10, .int .u8 9]
theorem gT1 : Tryz.prog.globalNamed "math/bits.deBruijn64tab" = some 5 := by kernel_rfl
theorem gTT1 : (Tryz.prog.globals[5]?).map (·.type) = some 198 := by kernel_rfl
def zs1 : List Int := [0, 1, 56, 2, 57, 49, 28, 3, 61, 58, 42, 50, 38, 29, 17, 4, 62, 47, 59, 36, 45, 43, 51, 22, 53, 39, 33, 30, 24, 18, 12, 5, 63, 55, 48, 27, 60, 41, 37, 16, 46, 35, 44, 21, 52, 32, 23, 11, 54, 26, 40, 15, 34, 20, 31, 10, 25, 14, 19, 9, 13, 8, 7, 6]
def cells1_ : Array Value := #[.int .u8 0, .int .u8 1, .int .u8 56, .int .u8 2, .int .u8 57, .int .u8 49, .int .u8 28, .int .u8 3, .int .u8 61, .int .u8 58, .int .u8 42, .int .u8 50, .int .u8 38, .int .u8 29, .int .u8 17, .int .u8 4, .int .u8 62, .int .u8 47, .int .u8 59, .int .u8 36, .int .u8 45, .int .u8 43, .int .u8 51, .int .u8 22, .int .u8 53, .int .u8 39, .int .u8 33, .int .u8 30, .int .u8 24, .int .u8 18, .int .u8 12, .int .u8 5, .int .u8 63, .int .u8 55, .int .u8 48, .int .u8 27, .int .u8 60, .int .u8 41, .int .u8 37, .int .u8 16, .int .u8 46, .int .u8 35, .int .u8 44, .int .u8 21, .int .u8 52, .int .u8 32, .int .u8 23, .int .u8 11, .int .u8 54, .int .u8 26, .int .u8 40, .int .u8 15, .int .u8 34, .int .u8 20, .int .u8 31, .int .u8 10, .int .u8 25, .int .u8 14, .int .u8 19, .int .u8 9, .int .u8 13, .int .u8 8, .int .u8 7, .int .u8 6]
theorem gT2 : Tryz.prog.globalNamed "internal/strconv.uint64pow10" = some 3 := by kernel_rfl
theorem gTT2 : (Tryz.prog.globals[3]?).map (·.type) = some 191 := by kernel_rfl
def zs2 : List Int := [1, 10, 100, 1000, 10000, 100000, 1000000, 10000000, 100000000, 1000000000, 10000000000, 100000000000, 1000000000000, 10000000000000, 100000000000000, 1000000000000000, 10000000000000000, 100000000000000000, 1000000000000000000, 10000000000000000000]
def cells2_ : Array Value := #[.int .u64 1, .int .u64 10, .int .u64 100, .int .u64 1000, .int .u64 10000, .int .u64 100000, .int .u64 1000000, .int .u64 10000000, .int .u64 100000000, .int .u64 1000000000, .int .u64 10000000000, .int .u64 100000000000, .int .u64 1000000000000, .int .u64 10000000000000, .int .u64 100000000000000, .int .u64 1000000000000000, .int .u64 10000000000000000, .int .u64 100000000000000000, .int .u64 1000000000000000000, .int .u64 10000000000000000000]
theorem gT3 : Tryz.prog.globalNamed "strconv.ErrRange" = some 2 := by kernel_rfl
theorem gTT3 : (Tryz.prog.globals[2]?).map (·.type) = some 139 := by kernel_rfl
theorem gT4 : Tryz.prog.globalNamed "strconv.ErrSyntax" = some 1 := by kernel_rfl
theorem gTT4 : (Tryz.prog.globals[1]?).map (·.type) = some 139 := by kernel_rfl
theorem gT5 : Tryz.prog.globalNamed "loop.example/g00025/impl.errorTexts" = some 0 := by kernel_rfl
theorem gTT5 : (Tryz.prog.globals[0]?).map (·.type) = some 144 := by kernel_rfl
def zs5 : List (List UInt8) := [[35, 78, 85, 76, 76, 33], [35, 68, 73, 86, 47, 48, 33], [35, 86, 65, 76, 85, 69, 33], [35, 82, 69, 70, 33], [35, 78, 65, 77, 69, 63], [35, 78, 85, 77, 33], [35, 78, 47, 65], [35, 83, 80, 73, 76, 76, 33], [35, 67, 89, 67, 76, 69, 33]]
def cells5_ : Array Value := #[.string ⟨⟨[35, 78, 85, 76, 76, 33]⟩⟩, .string ⟨⟨[35, 68, 73, 86, 47, 48, 33]⟩⟩, .string ⟨⟨[35, 86, 65, 76, 85, 69, 33]⟩⟩, .string ⟨⟨[35, 82, 69, 70, 33]⟩⟩, .string ⟨⟨[35, 78, 65, 77, 69, 63]⟩⟩, .string ⟨⟨[35, 78, 85, 77, 33]⟩⟩, .string ⟨⟨[35, 78, 47, 65]⟩⟩, .string ⟨⟨[35, 83, 80, 73, 76, 76, 33]⟩⟩, .string ⟨⟨[35, 67, 89, 67, 76, 69, 33]⟩⟩]
theorem door_met (os : Os) (args : Array Value) : laidMetH Tryz.prog Rows.fnExactUsedNamesRow.laid ((World.doorLaid Tryz.prog 400 os).forCall (fun _ _ => 0) ⟨#[], args, []⟩).memory :=
  laidMetH_of_parts3 (fuel := 8) (laidMet_of_run' 8 (by kernel_rfl) (by kernel_rfl)) (by kernel_rfl) (by kernel_rfl)
theorem cells_of {W : World} (h : laidMetH Tryz.prog Rows.fnExactUsedNamesRow.laid W) : W.var? Tryz.prog "math/bits.deBruijn32tab" = some cells0_ ∧ W.var? Tryz.prog "math/bits.deBruijn64tab" = some cells1_ ∧ W.var? Tryz.prog "internal/strconv.uint64pow10" = some cells2_ ∧ W.var? Tryz.prog "loop.example/g00025/impl.errorTexts" = some cells5_ := by
  rw [MakeChecks.laidMetH_plain _ _ _ (by kernel_rfl)] at h
  obtain ⟨ps, ⟨g0, t0, cs0, fuel0, p0, q0, hg0, ht0, hvar0, hd0, ⟨g1, t1, cs1, fuel1, p1, q1, hg1, ht1, hvar1, hd1, ⟨g2, t2, cs2, fuel2, p2, q2, hg2, ht2, hvar2, hd2, ⟨g3, t3, cs3, fuel3, p3, q3, hg3, ht3, hvar3, hd3, ⟨g4, t4, cs4, fuel4, p4, q4, hg4, ht4, hvar4, hd4, ⟨g5, t5, cs5, fuel5, p5, q5, hg5, ht5, hvar5, hd5, _, _⟩, _⟩, _⟩, _⟩, _⟩, _⟩, _⟩ := h
  obtain rfl := Option.some.inj (gT0.symm.trans hg0)
  obtain rfl := Option.some.inj (gTT0.symm.trans ht0)
  have e0 : cs0 = cells0_ := Array.toList_inj.1 (ints_of_trod (K := .u8) (zs := zs0) Tryz.underlying197 Tryz.underlying5 (by kernel_rfl) (by kernel_rfl) rfl hd0)
  obtain rfl := Option.some.inj (gT1.symm.trans hg1)
  obtain rfl := Option.some.inj (gTT1.symm.trans ht1)
  have e1 : cs1 = cells1_ := Array.toList_inj.1 (ints_of_trod (K := .u8) (zs := zs1) Tryz.underlying198 Tryz.underlying5 (by kernel_rfl) (by kernel_rfl) rfl hd1)
  obtain rfl := Option.some.inj (gT2.symm.trans hg2)
  obtain rfl := Option.some.inj (gTT2.symm.trans ht2)
  have e2 : cs2 = cells2_ := Array.toList_inj.1 (ints_of_trod (K := .u64) (zs := zs2) Tryz.underlying191 Tryz.underlying166 (by kernel_rfl) (by kernel_rfl) rfl hd2)
  obtain rfl := Option.some.inj (gT5.symm.trans hg5)
  obtain rfl := Option.some.inj (gTT5.symm.trans ht5)
  have e5 : cs5 = cells5_ := Array.toList_inj.1 (strs_of_trod (zs := zs5) Tryz.underlying144 Tryz.underlying9 (by kernel_rfl) (by kernel_rfl) rfl hd5)
  exact ⟨hvar0.trans (congrArg some e0), hvar1.trans (congrArg some e1), hvar2.trans (congrArg some e2), hvar5.trans (congrArg some e5)⟩
abbrev tableH0 {H : Type} : DataW H := Rows.laid_math_bits_deBruijn32tab
theorem reads_table0 {H : Type} (enc : TypeId × Value → H) (W : World) (sp : Nat → Bool) : DataW.trod enc Tryz.prog W 0 sp true 3 197 cells0_.toList = some (tableH0, []) := by kernel_rfl
abbrev tableH1 {H : Type} : DataW H := Rows.laid_math_bits_deBruijn64tab
theorem reads_table1 {H : Type} (enc : TypeId × Value → H) (W : World) (sp : Nat → Bool) : DataW.trod enc Tryz.prog W 0 sp true 3 198 cells1_.toList = some (tableH1, []) := by kernel_rfl
abbrev tableH2 {H : Type} : DataW H := Rows.laid_internal_strconv_uint64pow10
theorem reads_table2 {H : Type} (enc : TypeId × Value → H) (W : World) (sp : Nat → Bool) : DataW.trod enc Tryz.prog W 0 sp true 3 191 cells2_.toList = some (tableH2, []) := by kernel_rfl
abbrev tableH5 {H : Type} : DataW H := Rows.laid_loop_example_g00025_impl_errorTexts
theorem reads_table5 {H : Type} (enc : TypeId × Value → H) (W : World) (sp : Nat → Bool) : DataW.trod enc Tryz.prog W 0 sp true 3 144 cells5_.toList = some (tableH5, []) := by kernel_rfl
theorem starE : "*" ++ "errors.errorString" = "*errors.errorString" := by decide
theorem rowE (u : TypeId) (h : Tryz.prog.typeName? 3 u = some "*errors.errorString") : u = 187 := typeName_ptr_named (nm := "errors.errorString") (by rw [starE]; kernel_rfl) (by kernel_rfl) (by decide) u (by rw [starE]; exact h)
theorem sents_of {W : World} (h : laidMetH Tryz.prog Rows.fnExactUsedNamesRow.laid W) : PFnExactUsedNames.SentIs W "strconv.ErrRange" ∧ PFnExactUsedNames.SentIs W "strconv.ErrSyntax" := by
  rw [MakeChecks.laidMetH_plain _ _ _ (by kernel_rfl)] at h
  have h3 : laidMet Tryz.prog (("strconv.ErrRange", DataW.iface "*errors.errorString" (.ptr (.agg [.lit (.string [118, 97, 108, 117, 101, 32, 111, 117, 116, 32, 111, 102, 32, 114, 97, 110, 103, 101])]))) :: [("strconv.ErrSyntax", Rows.laid_strconv_ErrSyntax), ("loop.example/g00025/impl.errorTexts", Rows.laid_loop_example_g00025_impl_errorTexts)]) W := h.tail.tail.tail
  obtain ⟨a3, s3, hv3, -, -, -⟩ := laid_sentinel h3 gT3 gTT3 Tryz.underlying139 rowE Tryz.underlying187 Tryz.underlying189 rfl rfl Tryz.underlying9 (by kernel_rfl) (by kernel_rfl)
  have h4 : laidMet Tryz.prog (("strconv.ErrSyntax", DataW.iface "*errors.errorString" (.ptr (.agg [.lit (.string [105, 110, 118, 97, 108, 105, 100, 32, 115, 121, 110, 116, 97, 120])]))) :: [("loop.example/g00025/impl.errorTexts", Rows.laid_loop_example_g00025_impl_errorTexts)]) W := h.tail.tail.tail.tail
  obtain ⟨a4, s4, hv4, -, -, -⟩ := laid_sentinel h4 gT4 gTT4 Tryz.underlying139 rowE Tryz.underlying187 Tryz.underlying189 rfl rfl Tryz.underlying9 (by kernel_rfl) (by kernel_rfl)
  exact ⟨⟨_, _, hv3⟩, ⟨_, _, hv4⟩⟩
theorem TabE_of {W : World} (h : W.var? Tryz.prog "loop.example/g00025/impl.errorTexts" = some cells5_) : PFnExactUsedNames.TabE W := by
  intro m h1
  rw [World.var?_cell gT5 h]
  rcases (by omega : m = 0 ∨ m = 1 ∨ m = 2 ∨ m = 3 ∨ m = 4 ∨ m = 5 ∨ m = 6 ∨ m = 7 ∨ m = 8) with rfl | rfl | rfl | rfl | rfl | rfl | rfl | rfl | rfl <;> rfl
theorem TabP_of {W : World} (h : W.var? Tryz.prog "internal/strconv.uint64pow10" = some cells2_) : PFnExactUsedNames.TabP W := h.trans (congrArg some (by kernel_rfl))
theorem tab_of {W : World} (h : W.var? Tryz.prog "math/bits.deBruijn32tab" = some cells0_ ∧ W.var? Tryz.prog "math/bits.deBruijn64tab" = some cells1_ ∧ W.var? Tryz.prog "internal/strconv.uint64pow10" = some cells2_ ∧ W.var? Tryz.prog "loop.example/g00025/impl.errorTexts" = some cells5_) (hs : PFnExactUsedNames.SentIs W "strconv.ErrRange" ∧ PFnExactUsedNames.SentIs W "strconv.ErrSyntax") : PFnExactUsedNames.Tab W := ⟨TabE_of h.2.2.2, TabP_of h.2.2.1, ⟨hs.2, hs.1⟩⟩
set_option maxRecDepth 100000 in
theorem lifted (os : Os) (started : os.Started) (H : Type) (enc : TypeId × Value → H) :
    ReturnsInHanded {} Tryz.checked os 4 .any (fun w args => (Rows.fnExactUsedNamesSpec.pre enc Tryz.prog Tryz.f4 [] false w args ∧ laidMetH Tryz.prog Rows.fnExactUsedNamesRow.laid w) ∧ sizedMet enc Tryz.prog Tryz.f4 (OpenSpec.ofChange Rows.fnExactUsedNamesSpec) false w args)
      (Rows.fnExactUsedNamesSpec.post enc Tryz.prog Tryz.f4 false true false false) := by
  refine returnsInHanded_of_change_and (C := Tryz.checked) (X := fun w _ => laidMetH Tryz.prog Rows.fnExactUsedNamesRow.laid w) (fun _ _ _ hh h => h.of_heap hh) own started (by kernel_rfl) Tryz.func4
    (ChangeSpec.witness_shaped (enc := enc) (C := Tryz.checked) (os := os) (X := fun w _ => laidMetH Tryz.prog Rows.fnExactUsedNamesRow.laid w) false (World.doorLaid Tryz.prog 400 os) #[.slice none 0 0] 8 rfl (World.shaped_of_RefB (by kernel_rfl) (by kernel_rfl)) (by kernel_rfl) (by kernel_rfl) (by kernel_rfl) (door_met os _)) ?_
  intro W base args ds gs before hval0 hW _ _ hL _
  have hval : ∀ (j : Nat) t v, Tryz.f4.params[j]? = some t → args[j]? = some v → Value.okWide Tryz.prog W .any base t v := hval0
  have hW' := hW
  obtain ⟨p, q, hA0, hV0, rfl, hfz, hnd⟩ := hW
  have hA : DataW.TrodAll enc Tryz.prog W 0 (fun _ => true) true Tryz.f4.params.toList args.toList ds p := hA0
  have hV : DataW.TrodVars enc Tryz.prog W (fun _ => true) ["loop.example/g00025/impl.errorTexts"] gs q := hV0
  rw [Tryz.params4] at hA hval
  obtain ⟨v0, vs0, d0, ds0, p0, q0, hargs, rfl, rfl, h0, r0⟩ := trodAll_cons hA
  obtain ⟨rfl, rfl, rfl⟩ := trodAll_nil r0
  obtain rfl : args = #[v0] := by cases args; simp_all
  have k0 := h0
  have lt0 : ∀ x ∈ p0, x.block < W.heap.size := by obtain ⟨m, hm⟩ := k0; exact DataW.trod_lt m _ _ _ hm
  obtain ⟨A0, len0, c0, rfl⟩ := okWide_slice Tryz.underlying22 (hval 0 22 v0 rfl rfl)
  obtain ⟨fuel0, hf0⟩ := h0
  obtain ⟨B0, e0, l0, he0, w0_0, w0_1, w0_2⟩ := rows_of_trod Tryz.underlying22 (by kernel_rfl) fits64 hf0
  simp [Value.cells] at he0
  obtain ⟨rfl, rfl, rfl⟩ := he0
  have hcs := cells_of hL
  obtain ⟨gg0, tt0, ccs0, ff0, dd0, pp0, gs0, qq0, rfl, hg0, ht0, hvar0, hd0, hVr0, rfl⟩ := trodVars_cons hV
  obtain rfl := Option.some.inj (gT5.symm.trans hg0)
  obtain rfl := Option.some.inj (gTT5.symm.trans ht0)
  obtain rfl : ccs0 = cells5_ := Option.some.inj (hvar0.symm.trans hcs.2.2.2)
  obtain ⟨rfl, rfl⟩ := DataW.Trod.unique (v := .agg cells5_) ⟨ff0, hd0⟩ ⟨3, reads_table5 enc W _⟩
  have hlt0 : 0 < W.heap.size := World.block_lt_of_cell? W ⟨0, 0, none⟩ (World.var?_cell gT5 hvar0 0)
  obtain ⟨rfl, rfl⟩ := trodVars_none hVr0
  clear hA0 hV0 hval0
  have hT := tab_of hcs (sents_of hL)
  have hvars : ∀ W' : World, Below W.heap.size W W' → DataW.TrodVars enc Tryz.prog W' (fun b => decide (b < W.heap.size)) ["loop.example/g00025/impl.errorTexts"] [tableH5] (MemPlace.row ⟨0, 0, none⟩ cells5_.size ++ [] ++ []) := fun W' bel =>
    (trodVars_mkc gT5 gTT5 (var_below hvar0 gT5 bel hlt0) (reads_table5 enc W' _) trodVars_nil)
  obtain ⟨k, hk⟩ := Pure.FnExactUsedNames l0 w0_2
  refine (PFnExactUsedNames.laws_FnExactUsedNames.calls k A0 c0 l0 true W w0_1 w0_0 hT hk rfl).mono fun e W' ⟨he, bel⟩ => ?_
  subst he
  exact ⟨_, rfl, _, _, _, [], _, _, hW', trodAll_mk1 (shut_bool Tryz.underlying4 _), (trodAll_cons_mk (Below.trod laidOut (by kernel_rfl) (of_decide_eq_true (by kernel_rfl)) k0 bel lt0) trodAll_mk0), hvars _ bel, bel.frame _, fun h => by cases h⟩
theorem over : Rows.FnExactUsedNamesSaid :=
  OpenClaim.holds_of_wide 4 Tryz.f4 rfl rfl rfl rfl rfl rfl rfl ⟨rfl, rfl, rfl, rfl, rfl⟩ rfl rfl rfl rfl rfl (by kernel_rfl) Tryz.func4 (by kernel_rfl)
    (of_decide_eq_true (by kernel_rfl)) (by unfold Func.isWrapper; first | (rw [if_pos (by decide +kernel)]; kernel_rfl) | (rw [if_neg (by decide +kernel)]; exact ⟨rfl, rfl⟩))
    (fun os started H enc _ => lifted os started H enc)
theorem card : Rows.FnExactUsedNamesCardSaid :=
  Claim7.holds_tied_plain_at .later [] [.data, .data, .data, .sentinel, .sentinel, .data] true (true, "a0bd35ae6f81f6a65ff808d4404d8a160b2e88a6c123995029372d3d02a082a8") true
    over (fun _ h => by cases h) (by kernel_rfl) (fun _ h => by cases h) fnExactUsedNames_row_tie rfl ⟨rfl, rfl⟩ (by kernel_rfl) rfl
    (fun f fn hf hfn => by
      obtain rfl : f = 4 := Option.some.inj ((show Tryz.prog.funcNamed "loop.example/g00025/laws.FnExactUsedNames" = some 4 by kernel_rfl).symm.trans hf) |>.symm
      obtain rfl : fn = Tryz.f4 := (Option.some.inj (Tryz.func4.symm.trans hfn)).symm
      exact ⟨by kernel_rfl, fun j t ht => by
        rw [Tryz.params4] at ht
        have hm : t ∈ [22] := by simpa using Array.mem_of_getElem? ht
        have hall : ([22].all fun u => !Tryz.prog.wantsStandIn u) = true := by kernel_rfl
        exact (show Tryz.prog.wantsStandIn t = false by simpa using List.all_eq_true.1 hall t hm)⟩)
    (by kernel_rfl)
#print axioms card
end Go.Proofs.YtegdpgpbdcediaaGreatDoor.fnExactUsedNames
namespace Go.Proofs.YtegdpgpbdcediaaGreatDoor
theorem fnExactUsedNames_holds : Rows.FnExactUsedNamesCardSaid := fnExactUsedNames.card
end Go.Proofs.YtegdpgpbdcediaaGreatDoor
