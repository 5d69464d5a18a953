/- The card of FnExactBoolOf: for every input the law returns true and the input reads as it did; the table is what the program's text lays (tied). No further condition. -/
import Derived.Test.YtgemcfmkhkijaaaDoorRows
import Derived.Test.YtgemcfmkhkijaaaDoorTie
import Derived.Test.YtgemcfmkhkijaaaDoorCards
import Derived.Test.YtgemcfmkhkijaaaDoorMFnExactBoolOfa5
import Derived.Test.YtgemcfmkhkijaaaDoorPureFnExactBoolOf
import Derived.WalkKit
import Derived.ProofKit
import Derived.LaidMore
import Derived.OpenShut
import Derived.ShutString
import Derived.ChangeOld
import Derived.Below
import Derived.Stop.Joined
import Derived.ChangeVars
import Derived.Carry
import Derived.SizedLaws
import Derived.SevenTiedAt
namespace Go.Proofs.YtgemcfmkhkijaaaDoor.fnExactBoolOf
open Go.ChangeShapes Go.WideShapes Go.ChangeAt Go.RowKit Go.Proofs.YtgemcfmkhkijaaaDoorW.PrintWords Go.Proofs.YtgemcfmkhkijaaaDoor.PFnExactBoolOf
open Go.ChangeMaps (open_string shut_string)
set_option linter.unusedVariables false
theorem own : ownKnob Tryd.prog.godebug = none := by kernel_rfl
theorem laidOut : laidOutB Tryd.prog = true := by kernel_rfl
theorem gT : Tryd.prog.globalNamed "loop.example/g00025/impl.errorTexts" = some 1 := by kernel_rfl
theorem gTT : (Tryd.prog.globals[1]?).map (·.type) = some 77 := by kernel_rfl
/-- A plain table of whole numbers reads as its cells hold. -/
theorem ints_of_trod {H : Type} {enc : TypeId × Value → H} {P : Program} {w : World} {sp : Nat → Bool} {held : Bool} {fuel n : Nat} {t e : TypeId} {cs : List Value} {zs : List Int} {p : List MemPlace}
    (ht : P.underlying t = some (.array n e)) (he : P.underlying e = some (.int .i64)) (hc : P.cellsOf e = 1) (hct : P.cellsOf t = n) (hz : zs.length = n)
    (hd : DataW.trod enc P w 0 sp held fuel t cs = some (.agg (zs.map fun z => .lit (.int .i64 z)), p)) : cs = zs.map fun z => .int .i64 z := by
  obtain ⟨xs, m, _, hx, hl, hlen, hel⟩ := DataW.trod_array ht hd
  rw [hct] at hl
  simp only [Prod.mk.injEq, DataW.agg.injEq] at hx
  refine List.ext_getElem? fun i => ?_
  by_cases hi : i < n
  · have h1 := hel i hi
    rw [hc, Nat.mul_one, List.getElem?_eq_getElem (by omega)] at h1
    obtain ⟨k, e1, e2, _⟩ := DataW.trod_int he h1
    have h2 : (zs.map fun z => (DataW.lit (.int .i64 z) : DataW H))[i]? = (xs.map (·.1))[i]? := by rw [hx.1]
    rw [List.getElem?_map, List.getElem?_map, List.getElem?_eq_getElem (by omega), List.getElem?_eq_getElem (by omega), e2] at h2
    simp only [Option.map_some, Option.some.injEq, DataW.lit.injEq, Lit.int.injEq, true_and] at h2
    rw [List.getElem?_map, List.getElem?_eq_getElem (by omega : i < zs.length)]
    have h3 : ((cs.drop i).take 1)[0]? = some (.int .i64 k) := by rw [e1]; rfl
    rw [List.getElem?_take, if_pos (by omega), List.getElem?_drop] at h3
    simpa [h2] using h3
  · rw [List.getElem?_eq_none (by omega), List.getElem?_eq_none (by rw [List.length_map]; omega)]
theorem var_below {P : Program} {w w' : World} {n : String} {g : Nat} {cs : Array Value} (h : w.var? P n = some cs) (hg : P.globalNamed n = some g) (hb : Below w.heap.size w w') (hlt : g < w.heap.size) : w'.var? P n = some cs := by
  have e := hb.block g hlt
  simp only [World.var?, hg, Option.bind_some] at h ⊢
  rw [e]; exact h
/-- A plain table of texts reads as its cells hold. -/
theorem strs_of_trod {H : Type} {enc : TypeId × Value → H} {P : Program} {w : World} {sp : Nat → Bool} {held : Bool} {fuel n : Nat} {t e : TypeId} {cs : List Value} {zs : List (List UInt8)} {p : List MemPlace}
    (ht : P.underlying t = some (.array n e)) (he : P.underlying e = some .string) (hc : P.cellsOf e = 1) (hct : P.cellsOf t = n) (hz : zs.length = n)
    (hd : DataW.trod enc P w 0 sp held fuel t cs = some (.agg (zs.map fun z => .lit (.string z)), p)) : cs = zs.map fun z => .string ⟨⟨z⟩⟩ := by
  obtain ⟨xs, m, _, hx, hl, hlen, hel⟩ := DataW.trod_array ht hd
  rw [hct] at hl
  simp only [Prod.mk.injEq, DataW.agg.injEq] at hx
  refine List.ext_getElem? fun i => ?_
  by_cases hi : i < n
  · have h1 := hel i hi
    rw [hc, Nat.mul_one, List.getElem?_eq_getElem (by omega)] at h1
    obtain ⟨k, e1, e2, _⟩ := DataW.trod_string he h1
    have h2 : (zs.map fun z => (DataW.lit (.string z) : DataW H))[i]? = (xs.map (·.1))[i]? := by rw [hx.1]
    rw [List.getElem?_map, List.getElem?_map, List.getElem?_eq_getElem (by omega), List.getElem?_eq_getElem (by omega), e2] at h2
    simp only [Option.map_some, Option.some.injEq, DataW.lit.injEq, Lit.string.injEq] at h2
    rw [List.getElem?_map, List.getElem?_eq_getElem (by omega : i < zs.length)]
    have h3 : ((cs.drop i).take 1)[0]? = some (.string k) := by rw [e1]; rfl
    rw [List.getElem?_take, if_pos (by omega), List.getElem?_drop] at h3
    simpa [h2] using h3
  · rw [List.getElem?_eq_none (by omega), List.getElem?_eq_none (by rw [List.length_map]; omega)]
def zs : List (List UInt8) := [[35, 78, 85, 76, 76, 33], [35, 68, 73, 86, 47, 48, 33], [35, 86, 65, 76, 85, 69, 33], [35, 82, 69, 70, 33], [35, 78, 65, 77, 69, 63], [35, 78, 85, 77, 33], [35, 78, 47, 65], [35, 83, 80, 73, 76, 76, 33], [35, 67, 89, 67, 76, 69, 33]]
def cells : Array Value := #[.string ⟨⟨[35, 78, 85, 76, 76, 33]⟩⟩, .string ⟨⟨[35, 68, 73, 86, 47, 48, 33]⟩⟩, .string ⟨⟨[35, 86, 65, 76, 85, 69, 33]⟩⟩, .string ⟨⟨[35, 82, 69, 70, 33]⟩⟩, .string ⟨⟨[35, 78, 65, 77, 69, 63]⟩⟩, .string ⟨⟨[35, 78, 85, 77, 33]⟩⟩, .string ⟨⟨[35, 78, 47, 65]⟩⟩, .string ⟨⟨[35, 83, 80, 73, 76, 76, 33]⟩⟩, .string ⟨⟨[35, 67, 89, 67, 76, 69, 33]⟩⟩]
theorem door_met (os : Os) (args : Array Value) : laidMetH Tryd.prog Rows.fnExactBoolOfRow.laid ((World.doorLaid Tryd.prog 400 os).forCall (fun _ _ => 0) ⟨#[], args, []⟩).memory :=
  laidMetH_of_parts3 (fuel := 8) (laidMet_of_run' 8 (by kernel_rfl) (by kernel_rfl)) (by kernel_rfl) (by kernel_rfl)
theorem cells_of {W : World} (h : laidMetH Tryd.prog Rows.fnExactBoolOfRow.laid W) : W.var? Tryd.prog "loop.example/g00025/impl.errorTexts" = some cells := by
  rw [MakeChecks.laidMetH_plain _ _ _ (by kernel_rfl)] at h
  obtain ⟨ps, ⟨g, t, cs, fuel, p, q, hg, ht, hvar, hd, _, _⟩, _⟩ := h
  obtain rfl := Option.some.inj (gT.symm.trans hg)
  obtain rfl := Option.some.inj (gTT.symm.trans ht)
  rw [hvar]
  congr 1
  exact Array.toList_inj.1 (strs_of_trod (zs := zs) Tryd.underlying77 Tryd.underlying9 (by kernel_rfl) (by kernel_rfl) rfl hd)
abbrev tableH {H : Type} : DataW H := Rows.laid_loop_example_g00025_impl_errorTexts
theorem reads_table {H : Type} (enc : TypeId × Value → H) (W : World) (sp : Nat → Bool) : DataW.trod enc Tryd.prog W 0 sp true 3 77 cells.toList = some (tableH, []) := by kernel_rfl
theorem tab_of {W : World} (h : W.var? Tryd.prog "loop.example/g00025/impl.errorTexts" = some cells) : PFnExactBoolOf.Tab W := by
  intro m h1
  rw [World.var?_cell gT h]
  rcases (by omega : m = 0 ∨ m = 1 ∨ m = 2 ∨ m = 3 ∨ m = 4 ∨ m = 5 ∨ m = 6 ∨ m = 7 ∨ m = 8) with rfl | rfl | rfl | rfl | rfl | rfl | rfl | rfl | rfl <;> rfl
theorem list3 {l : List Value} (h : l.length = 3) : ∃ c0 c1 c2, l = [c0, c1, c2] := by
  match l, h with
  | [c0, c1, c2], _ => exact ⟨c0, c1, c2, rfl⟩
theorem list5 {l : List Value} (h : l.length = 5) : ∃ c0 c1 c2 c3 c4, l = [c0, c1, c2, c3, c4] := by
  match l, h with
  | [c0, c1, c2, c3, c4], _ => exact ⟨c0, c1, c2, c3, c4, rfl⟩
theorem cells31 {H : Type} {enc : TypeId × Value → H} {W : World} {sp : Nat → Bool} {fuel : Nat} {cs : List Value} {x : DataW H × List MemPlace} (h : DataW.trod enc Tryd.prog W 0 sp true fuel 31 cs = some x) :
    ∃ (a_0 : Bool) (a_1 : Int) (a_2 : Int), cs = [.bool a_0, .int .i64 a_1, .int .i64 a_2] ∧ (Lit.int .i64 a_1).wf = true ∧ (Lit.int .i64 a_2).wf = true := by
  obtain ⟨xs, n, _, rfl, hl, hlen, hf⟩ := DataW.trod_struct Tryd.underlying31 h
  have hc : Tryd.prog.cellsOf 31 = 3 := by kernel_rfl
  rw [hc] at hl
  obtain ⟨y0, y1, y2, rfl⟩ := list3 hl
  replace hlen : xs.length = 3 := hlen
  have k0 : Tryd.prog.cellsOf 4 = 1 := by kernel_rfl
  have g0 := hf 0 _ rfl
  rw [List.getElem?_eq_getElem (by omega)] at g0
  replace g0 : DataW.trod enc Tryd.prog W 0 sp true n 4 (([y0, y1, y2].drop 0).take (Tryd.prog.cellsOf 4)) = some _ := g0
  rw [k0] at g0
  replace g0 : DataW.trod enc Tryd.prog W 0 sp true n 4 [y0] = some _ := g0
  have k1 : Tryd.prog.cellsOf 3 = 1 := by kernel_rfl
  have g1 := hf 1 _ rfl
  rw [List.getElem?_eq_getElem (by omega)] at g1
  replace g1 : DataW.trod enc Tryd.prog W 0 sp true n 3 (([y0, y1, y2].drop 1).take (Tryd.prog.cellsOf 3)) = some _ := g1
  rw [k1] at g1
  replace g1 : DataW.trod enc Tryd.prog W 0 sp true n 3 [y1] = some _ := g1
  have k2 : Tryd.prog.cellsOf 3 = 1 := by kernel_rfl
  have g2 := hf 2 _ rfl
  rw [List.getElem?_eq_getElem (by omega)] at g2
  replace g2 : DataW.trod enc Tryd.prog W 0 sp true n 3 (([y0, y1, y2].drop 2).take (Tryd.prog.cellsOf 3)) = some _ := g2
  rw [k2] at g2
  replace g2 : DataW.trod enc Tryd.prog W 0 sp true n 3 [y2] = some _ := g2
  obtain ⟨b0, e0, _⟩ := DataW.trod_bool Tryd.underlying4 g0
  simp only [List.cons.injEq, and_true] at e0
  subst e0
  obtain ⟨b1, e1, _, w1⟩ := DataW.trod_int Tryd.underlying3 g1
  simp only [List.cons.injEq, and_true] at e1
  subst e1
  obtain ⟨b2, e2, _, w2⟩ := DataW.trod_int Tryd.underlying3 g2
  simp only [List.cons.injEq, and_true] at e2
  subst e2
  exact ⟨b0, b1, b2, rfl, w1, w2⟩
theorem cells33 {H : Type} {enc : TypeId × Value → H} {W : World} {sp : Nat → Bool} {fuel : Nat} {cs : List Value} {x : DataW H × List MemPlace} (h : DataW.trod enc Tryd.prog W 0 sp true fuel 33 cs = some x) :
    ∃ (a_0 : Int) (a_1_0 : Bool) (a_1_1 : Int) (a_1_2 : Int) (a_2 : ByteArray), cs = [.int .i64 a_0, .bool a_1_0, .int .i64 a_1_1, .int .i64 a_1_2, .string a_2] ∧ (Lit.int .i64 a_0).wf = true ∧ (Lit.int .i64 a_1_1).wf = true ∧ (Lit.int .i64 a_1_2).wf = true ∧ a_2.size ≤ maxLen := by
  obtain ⟨xs, n, _, rfl, hl, hlen, hf⟩ := DataW.trod_struct Tryd.underlying33 h
  have hc : Tryd.prog.cellsOf 33 = 5 := by kernel_rfl
  rw [hc] at hl
  obtain ⟨y0, y1, y2, y3, y4, rfl⟩ := list5 hl
  replace hlen : xs.length = 3 := hlen
  have k0 : Tryd.prog.cellsOf 3 = 1 := by kernel_rfl
  have g0 := hf 0 _ rfl
  rw [List.getElem?_eq_getElem (by omega)] at g0
  replace g0 : DataW.trod enc Tryd.prog W 0 sp true n 3 (([y0, y1, y2, y3, y4].drop 0).take (Tryd.prog.cellsOf 3)) = some _ := g0
  rw [k0] at g0
  replace g0 : DataW.trod enc Tryd.prog W 0 sp true n 3 [y0] = some _ := g0
  have k1 : Tryd.prog.cellsOf 31 = 3 := by kernel_rfl
  have g1 := hf 1 _ rfl
  rw [List.getElem?_eq_getElem (by omega)] at g1
  replace g1 : DataW.trod enc Tryd.prog W 0 sp true n 31 (([y0, y1, y2, y3, y4].drop 1).take (Tryd.prog.cellsOf 31)) = some _ := g1
  rw [k1] at g1
  replace g1 : DataW.trod enc Tryd.prog W 0 sp true n 31 [y1, y2, y3] = some _ := g1
  have k2 : Tryd.prog.cellsOf 9 = 1 := by kernel_rfl
  have g2 := hf 2 _ rfl
  rw [List.getElem?_eq_getElem (by omega)] at g2
  replace g2 : DataW.trod enc Tryd.prog W 0 sp true n 9 (([y0, y1, y2, y3, y4].drop 4).take (Tryd.prog.cellsOf 9)) = some _ := g2
  rw [k2] at g2
  replace g2 : DataW.trod enc Tryd.prog W 0 sp true n 9 [y4] = some _ := g2
  obtain ⟨b0, e0, _, w0⟩ := DataW.trod_int Tryd.underlying3 g0
  simp only [List.cons.injEq, and_true] at e0
  subst e0
  obtain ⟨b1_0, b1_1, b1_2, e1, w1_1_0, w1_2_0⟩ := cells31 g1
  simp only [List.cons.injEq, and_true] at e1
  obtain ⟨rfl, rfl, rfl⟩ := e1
  obtain ⟨b2, e2, _, w2⟩ := DataW.trod_string Tryd.underlying9 g2
  simp only [List.cons.injEq, and_true] at e2
  subst e2
  exact ⟨b0, b1_0, b1_1, b1_2, b2, rfl, w0, w1_1_0, w1_2_0, w2⟩
set_option maxRecDepth 100000 in
theorem lifted (os : Os) (started : os.Started) (H : Type) (enc : TypeId × Value → H) :
    ReturnsInHanded {} Tryd.checked os 5 .any (fun w args => (Rows.fnExactBoolOfSpec.pre enc Tryd.prog Tryd.f5 [] false w args ∧ laidMetH Tryd.prog Rows.fnExactBoolOfRow.laid w) ∧ sizedMet enc Tryd.prog Tryd.f5 (OpenSpec.ofChange Rows.fnExactBoolOfSpec) false w args)
      (Rows.fnExactBoolOfSpec.post enc Tryd.prog Tryd.f5 false true false false) := by
  refine returnsInHanded_of_change_and (C := Tryd.checked) (X := fun w _ => laidMetH Tryd.prog Rows.fnExactBoolOfRow.laid w) (fun _ _ _ hh h => h.of_heap hh) own started (by kernel_rfl) Tryd.func5
    (ChangeSpec.witness_shaped (enc := enc) (C := Tryd.checked) (os := os) (X := fun w _ => laidMetH Tryd.prog Rows.fnExactBoolOfRow.laid w) false (World.doorLaid Tryd.prog 400 os) #[.agg #[.int .i64 0, .bool false, .int .i64 0, .int .i64 0, .string ⟨#[]⟩]] 8 rfl (World.shaped_of_RefB (by kernel_rfl) (by kernel_rfl)) (by kernel_rfl) (by kernel_rfl) (by kernel_rfl) (door_met os _)) ?_
  intro W base args ds gs before hval0 hW _ _ hL _
  have hval : ∀ (j : Nat) t v, Tryd.f5.params[j]? = some t → args[j]? = some v → Value.okWide Tryd.prog W .any base t v := hval0
  have hW' := hW
  obtain ⟨p, q, hA0, hV0, rfl, hfz, hnd⟩ := hW
  have hA : DataW.TrodAll enc Tryd.prog W 0 (fun _ => true) true Tryd.f5.params.toList args.toList ds p := hA0
  have hV : DataW.TrodVars enc Tryd.prog W (fun _ => true) ["loop.example/g00025/impl.errorTexts"] gs q := hV0
  rw [Tryd.params5] at hA hval
  obtain ⟨v0, vs0, d0, ds0, p0, q0, hargs, rfl, rfl, h0, r0⟩ := trodAll_cons hA
  obtain ⟨rfl, rfl, rfl⟩ := trodAll_nil r0
  obtain rfl : args = #[v0] := by cases args; simp_all
  have k0 := h0
  have lt0 : ∀ x ∈ p0, x.block < W.heap.size := by obtain ⟨m, hm⟩ := k0; exact DataW.trod_lt m _ _ _ hm
  obtain ⟨cs0, rfl, hs0⟩ := okWide_struct Tryd.underlying33 (hval 0 33 v0 rfl rfl)
  obtain ⟨fuel0, hf0⟩ := h0
  obtain ⟨a0_0, a0_1, a0_2, a0_3, a0_4, hc0, w0_0_0, w0_2_0, w0_3_0, w0_4_0⟩ := cells33 hf0
  obtain rfl : cs0 = #[.int .i64 a0_0, .bool a0_1, .int .i64 a0_2, .int .i64 a0_3, .string a0_4] := Array.toList_inj.1 hc0
  obtain ⟨g, t, cs, fuel, d, p', rfl, hg, ht, hvar, hd, rfl⟩ := trodVars_one hV
  obtain rfl := Option.some.inj (gT.symm.trans hg)
  obtain rfl := Option.some.inj (gTT.symm.trans ht)
  obtain rfl : cs = cells := Option.some.inj (hvar.symm.trans (cells_of hL))
  obtain ⟨rfl, rfl⟩ := DataW.Trod.unique (v := .agg cells) ⟨fuel, hd⟩ ⟨3, reads_table enc W _⟩
  have hlt : 1 < W.heap.size := by
    have := World.var?_cell gT hvar 0
    exact World.block_lt_of_cell? W ⟨1, 0, none⟩ this
  clear hA0 hV0 hval0
  have hT := tab_of hvar
  have hvars : ∀ W' : World, Below W.heap.size W W' → DataW.TrodVars enc Tryd.prog W' (fun b => decide (b < W.heap.size)) ["loop.example/g00025/impl.errorTexts"] [tableH] (MemPlace.row ⟨1, 0, none⟩ cells.size ++ []) := fun W' bel =>
    trodVars_mk1 gT gTT (var_below hvar gT bel hlt) (reads_table enc W' _)
  obtain ⟨k, hk⟩ := Pure.FnExactBoolOf a0_0 a0_1 a0_2 a0_3 a0_4 w0_0_0 w0_2_0 w0_3_0 w0_4_0
  refine (PFnExactBoolOf.laws_FnExactBoolOf.calls k a0_0 a0_1 a0_2 a0_3 a0_4 true W  hT hk).mono fun e W' ⟨he, bel⟩ => ?_
  subst he
  exact ⟨_, rfl, _, _, _, [], _, _, hW', trodAll_mk1 (shut_bool Tryd.underlying4 _), (trodAll_cons_mk (Below.trod laidOut (by kernel_rfl) (of_decide_eq_true (by kernel_rfl)) k0 bel lt0) trodAll_mk0), hvars _ bel, bel.frame _, fun h => by cases h⟩
theorem over : Rows.FnExactBoolOfSaid :=
  OpenClaim.holds_of_wide 5 Tryd.f5 rfl rfl rfl rfl rfl rfl rfl ⟨rfl, rfl, rfl, rfl, rfl⟩ rfl rfl rfl rfl rfl (by kernel_rfl) Tryd.func5 (by kernel_rfl)
    (of_decide_eq_true (by kernel_rfl)) (by unfold Func.isWrapper; first | (rw [if_pos (by decide +kernel)]; kernel_rfl) | (rw [if_neg (by decide +kernel)]; exact ⟨rfl, rfl⟩))
    (fun os started H enc _ => lifted os started H enc)
theorem card : Rows.FnExactBoolOfCardSaid :=
  Claim7.holds_tied_plain_at .later [] [.data] true (true, "698cb2014d20db01b6d6f28c7b2bec3b9b4ab383f25c4d3d50a0e865df76c951") false
    over (fun _ h => by cases h) (by kernel_rfl) (fun _ h => by cases h) fnExactBoolOf_row_tie rfl ⟨rfl, rfl⟩ (by kernel_rfl) rfl
    (fun f fn hf hfn => by
      obtain rfl : f = 5 := Option.some.inj ((show Tryd.prog.funcNamed "loop.example/g00025/laws.FnExactBoolOf" = some 5 by kernel_rfl).symm.trans hf) |>.symm
      obtain rfl : fn = Tryd.f5 := (Option.some.inj (Tryd.func5.symm.trans hfn)).symm
      exact ⟨by kernel_rfl, fun j t ht => by
        rw [Tryd.params5] at ht
        have hm : t ∈ [33] := by simpa using Array.mem_of_getElem? ht
        have hall : ([33].all fun u => !Tryd.prog.wantsStandIn u) = true := by kernel_rfl
        exact (show Tryd.prog.wantsStandIn t = false by simpa using List.all_eq_true.1 hall t hm)⟩)
    (by kernel_rfl)
#print axioms card
end Go.Proofs.YtgemcfmkhkijaaaDoor.fnExactBoolOf
namespace Go.Proofs.YtgemcfmkhkijaaaDoor
theorem fnExactBoolOf_holds : Rows.FnExactBoolOfCardSaid := fnExactBoolOf.card
end Go.Proofs.YtgemcfmkhkijaaaDoor
