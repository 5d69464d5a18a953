/- What the arguments of FnExactUsedNames read as, for its row: each slice is a list of values of its kind, within the language's bounds. No conditions but each theorem's own. -/
import Derived.Test.YtegdpgpbdcediaaGreatDoorMFnExactUsedNamesa19
import Derived.Deep.Slices
import Derived.Deep.Strs
import Derived.ChangeArms
import Derived.OpenShut
namespace Go.Proofs.YtegdpgpbdcediaaGreatDoor.PFnExactUsedNames
open Go.RowKit Go.Proofs.YtegdpgpbdcediaaGreatDoorW.PrintWords Go.Proofs.YtegdpgpbdcediaaGreatDoorW.PrintLast Go.ChangeShapes Go.WideShapes
set_option linter.unusedVariables false
/-- What reads at type t holds values of the kind d that are as Q says. -/
def Fits {α : Type} (P : Program) (d : Kd α) (t : TypeId) (Q : α → Prop) : Prop :=
  ∀ (H : Type) (enc : TypeId × Value → H) (W : World) (sp : Nat → Bool) (fuel : Nat) (cs : List Value) (x : DataW H × List MemPlace), DataW.trod enc P W 0 sp true fuel t cs = some x → ∃ v, d.K W v cs ∧ Q v
def QI (k : IntKind) (n : Int) : Prop := (Lit.int k n).wf = true
def QB (_ : Bool) : Prop := True
def QS (s : ByteArray) : Prop := s.size ≤ maxLen
def QL {α : Type} (Q : α → Prop) (xs : List α) : Prop := xs.length ≤ 9223372036854775807 ∧ ∀ x ∈ xs, Q x
theorem fits_int {P : Program} {t : TypeId} {k : IntKind} (hu : P.underlying t = some (.int k)) : Fits P (Kd.int k) t (QI k) := by
  intro H enc W sp fuel cs x h
  obtain ⟨n, rfl, _, hw⟩ := DataW.trod_int hu h
  exact ⟨n, rfl, hw⟩
theorem fits_bool {P : Program} {t : TypeId} (hu : P.underlying t = some .bool) : Fits P Kd.bool t QB := by
  intro H enc W sp fuel cs x h
  obtain ⟨b, rfl, _⟩ := DataW.trod_bool hu h
  exact ⟨b, rfl, trivial⟩
theorem fits_string {P : Program} {t : TypeId} (hu : P.underlying t = some .string) : Fits P Kd.string t QS := by
  intro H enc W sp fuel cs x h
  obtain ⟨b, rfl, _, hw⟩ := DataW.trod_string hu h
  exact ⟨b, rfl, hw⟩
/-- The elements of a slice that is read. -/
theorem rows_of_trod {α : Type} {P : Program} {d : Kd α} {Q : α → Prop} {t e : TypeId} (hu : P.underlying t = some (.slice e)) (hc : P.cellsOf e = d.sz) (hf : Fits P d e Q) {H : Type} {enc : TypeId × Value → H} {W : World} {sp : Nat → Bool} {fuel : Nat} {cs : List Value} {x : DataW H × List MemPlace}
    (h : DataW.trod enc P W 0 sp true fuel t cs = some x) : ∃ (A : Option Addr) (c : Nat) (xs : List α), cs = [.slice A xs.length c] ∧ xs.length ≤ c ∧ d.C W A xs.length xs ∧ QL Q xs := by
  rcases Go.Deep.open_slice hu h with ⟨rfl, _⟩ | ⟨a, len, cap, m, n, D, Pl, rfl, _, hl, hm, hmm, _, hel⟩
  · exact ⟨none, 0, [], rfl, Nat.le_refl _, ⟨rfl, by simp, fun h0 => absurd h0 (by simp)⟩, by simp, fun x hx => by cases hx⟩
  · have hml : len ≤ m := by rw [hmm]; split <;> omega
    have hex : ∀ i : Fin len, ∃ v, (∃ c : List Value, c.length = d.sz ∧ d.K W v c ∧ ∀ j u, c[j]? = some u → W.cell? (a.add (i.1 * d.sz + j)) = some u) ∧ Q v := by
      intro ⟨i, hi⟩
      obtain ⟨c, h1, h2⟩ := hel i (by omega)
      obtain ⟨_, h3, h4⟩ := World.cells?_some h1
      obtain ⟨v, hv, hq⟩ := hf H enc W sp n c _ h2
      refine ⟨v, ⟨c, by rw [h3, hc], hv, fun j u hj => ?_⟩, hq⟩
      have hj' := (List.getElem?_eq_some_iff.1 hj).1
      rw [← hc, ← Addr.add_add, h4 j (by omega)]; exact hj
    obtain ⟨g, hg⟩ : ∃ g : Fin len → α, ∀ i, (∃ c : List Value, c.length = d.sz ∧ d.K W (g i) c ∧ ∀ j u, c[j]? = some u → W.cell? (a.add (i.1 * d.sz + j)) = some u) ∧ Q (g i) :=
      ⟨fun i => Classical.choose (hex i), fun i => Classical.choose_spec (hex i)⟩
    have hlen : (List.ofFn g).length = len := List.length_ofFn
    refine ⟨some a, cap, List.ofFn g, by rw [hlen], by rw [hlen]; exact hl, ?_, ?_⟩
    · rw [hlen]
      refine ⟨hlen, by unfold maxLen at hm; omega, fun _ => ⟨a, rfl, fun j q hj => ?_⟩⟩
      have hjl : j < len := by have := (List.getElem?_eq_some_iff.1 hj).1; rw [hlen] at this; exact this
      rw [List.getElem?_ofFn, dif_pos hjl] at hj
      obtain rfl := Option.some.inj hj
      exact (hg ⟨j, hjl⟩).1
    · refine ⟨by rw [hlen]; unfold maxLen at hm; omega, fun q hq => ?_⟩
      obtain ⟨i, rfl⟩ := List.mem_ofFn.1 hq
      exact (hg i).2
theorem fits_slice {α : Type} {P : Program} {d : Kd α} {Q : α → Prop} {t e : TypeId} (hu : P.underlying t = some (.slice e)) (hc : P.cellsOf e = d.sz) (hf : Fits P d e Q) : Fits P (Kd.slice e d) t (QL Q) := by
  intro H enc W sp fuel cs x h
  obtain ⟨A, c, xs, e1, e2, e3, e4⟩ := rows_of_trod hu hc hf h
  exact ⟨xs, ⟨A, c, e1, e2, e3⟩, e4⟩
theorem pair_take {α β : Type} {d0 : Kd α} {d1 : Kd β} {W : World} {x : α} {y : β} {cs : List Value} {o s : Nat} (h0 : d0.K W x ((cs.drop o).take s)) (h1 : d1.K W y (cs.drop (o + s))) : (Kd.pair d0 d1).K W (x, y) (cs.drop o) :=
  ⟨(cs.drop o).take s, cs.drop (o + s), by rw [← List.drop_drop, List.take_append_drop], h0, h1⟩
theorem last_take {α : Type} {d : Kd α} {W : World} {x : α} {cs : List Value} {o s : Nat} (hl : cs.length = o + s) (h : d.K W x ((cs.drop o).take s)) : d.K W x (cs.drop o) := by
  rw [List.take_of_length_le (by rw [List.length_drop]; omega)] at h; exact h

def Q62 (x : S62) : Prop := QB x.f0 ∧ (QI .i64) x.f1 ∧ (QI .i64) x.f2
theorem fits62 : Fits Tryz.prog k62 62 Q62 := by
  intro H enc W sp fuel cs x h
  obtain ⟨xs, n, _, rfl, hl, hlen, hf⟩ := DataW.trod_struct Tryz.underlying62 h
  have hc : Tryz.prog.cellsOf 62 = 3 := by kernel_rfl
  rw [hc] at hl
  replace hlen : xs.length = 3 := hlen
  have s0 : Tryz.prog.cellsOf 4 = 1 := by kernel_rfl
  have g0 := hf 0 _ rfl
  rw [List.getElem?_eq_getElem (by omega)] at g0
  replace g0 : DataW.trod enc Tryz.prog W 0 sp true n 4 ((cs.drop 0).take (Tryz.prog.cellsOf 4)) = some _ := g0
  rw [s0] at g0
  obtain ⟨v0, e0, q0⟩ := (fits_bool Tryz.underlying4) H enc W sp n _ _ g0
  have s1 : Tryz.prog.cellsOf 3 = 1 := by kernel_rfl
  have g1 := hf 1 _ rfl
  rw [List.getElem?_eq_getElem (by omega)] at g1
  replace g1 : DataW.trod enc Tryz.prog W 0 sp true n 3 ((cs.drop 1).take (Tryz.prog.cellsOf 3)) = some _ := g1
  rw [s1] at g1
  obtain ⟨v1, e1, q1⟩ := (fits_int Tryz.underlying3) H enc W sp n _ _ g1
  have s2 : Tryz.prog.cellsOf 3 = 1 := by kernel_rfl
  have g2 := hf 2 _ rfl
  rw [List.getElem?_eq_getElem (by omega)] at g2
  replace g2 : DataW.trod enc Tryz.prog W 0 sp true n 3 ((cs.drop 2).take (Tryz.prog.cellsOf 3)) = some _ := g2
  rw [s2] at g2
  obtain ⟨v2, e2, q2⟩ := (fits_int Tryz.underlying3) H enc W sp n _ _ g2
  refine ⟨⟨v0, v1, v2⟩, ?_, q0, q1, q2⟩
  exact pair_take (o := 0) (s := 1) e0 (pair_take (o := 1) (s := 1) e1 (last_take (o := 2) (s := 1) (by omega) e2))
def Q41 (x : S41) : Prop := (QI .i64) x.f0 ∧ (QI .i64) x.f1 ∧ QB x.f2 ∧ QB x.f3
theorem fits41 : Fits Tryz.prog k41 41 Q41 := by
  intro H enc W sp fuel cs x h
  obtain ⟨xs, n, _, rfl, hl, hlen, hf⟩ := DataW.trod_struct Tryz.underlying41 h
  have hc : Tryz.prog.cellsOf 41 = 4 := by kernel_rfl
  rw [hc] at hl
  replace hlen : xs.length = 4 := hlen
  have s0 : Tryz.prog.cellsOf 3 = 1 := by kernel_rfl
  have g0 := hf 0 _ rfl
  rw [List.getElem?_eq_getElem (by omega)] at g0
  replace g0 : DataW.trod enc Tryz.prog W 0 sp true n 3 ((cs.drop 0).take (Tryz.prog.cellsOf 3)) = some _ := g0
  rw [s0] at g0
  obtain ⟨v0, e0, q0⟩ := (fits_int Tryz.underlying3) H enc W sp n _ _ g0
  have s1 : Tryz.prog.cellsOf 3 = 1 := by kernel_rfl
  have g1 := hf 1 _ rfl
  rw [List.getElem?_eq_getElem (by omega)] at g1
  replace g1 : DataW.trod enc Tryz.prog W 0 sp true n 3 ((cs.drop 1).take (Tryz.prog.cellsOf 3)) = some _ := g1
  rw [s1] at g1
  obtain ⟨v1, e1, q1⟩ := (fits_int Tryz.underlying3) H enc W sp n _ _ g1
  have s2 : Tryz.prog.cellsOf 4 = 1 := by kernel_rfl
  have g2 := hf 2 _ rfl
  rw [List.getElem?_eq_getElem (by omega)] at g2
  replace g2 : DataW.trod enc Tryz.prog W 0 sp true n 4 ((cs.drop 2).take (Tryz.prog.cellsOf 4)) = some _ := g2
  rw [s2] at g2
  obtain ⟨v2, e2, q2⟩ := (fits_bool Tryz.underlying4) H enc W sp n _ _ g2
  have s3 : Tryz.prog.cellsOf 4 = 1 := by kernel_rfl
  have g3 := hf 3 _ rfl
  rw [List.getElem?_eq_getElem (by omega)] at g3
  replace g3 : DataW.trod enc Tryz.prog W 0 sp true n 4 ((cs.drop 3).take (Tryz.prog.cellsOf 4)) = some _ := g3
  rw [s3] at g3
  obtain ⟨v3, e3, q3⟩ := (fits_bool Tryz.underlying4) H enc W sp n _ _ g3
  refine ⟨⟨v0, v1, v2, v3⟩, ?_, q0, q1, q2, q3⟩
  exact pair_take (o := 0) (s := 1) e0 (pair_take (o := 1) (s := 1) e1 (pair_take (o := 2) (s := 1) e2 (last_take (o := 3) (s := 1) (by omega) e3)))
def Q64 (x : S64) : Prop := (QI .i64) x.f0 ∧ QS x.f1 ∧ Q62 x.f2 ∧ Q41 x.f3 ∧ Q41 x.f4 ∧ (QI .i64) x.f5
theorem fits64 : Fits Tryz.prog k64 64 Q64 := by
  intro H enc W sp fuel cs x h
  obtain ⟨xs, n, _, rfl, hl, hlen, hf⟩ := DataW.trod_struct Tryz.underlying64 h
  have hc : Tryz.prog.cellsOf 64 = 14 := by kernel_rfl
  rw [hc] at hl
  replace hlen : xs.length = 6 := hlen
  have s0 : Tryz.prog.cellsOf 3 = 1 := by kernel_rfl
  have g0 := hf 0 _ rfl
  rw [List.getElem?_eq_getElem (by omega)] at g0
  replace g0 : DataW.trod enc Tryz.prog W 0 sp true n 3 ((cs.drop 0).take (Tryz.prog.cellsOf 3)) = some _ := g0
  rw [s0] at g0
  obtain ⟨v0, e0, q0⟩ := (fits_int Tryz.underlying3) H enc W sp n _ _ g0
  have s1 : Tryz.prog.cellsOf 9 = 1 := by kernel_rfl
  have g1 := hf 1 _ rfl
  rw [List.getElem?_eq_getElem (by omega)] at g1
  replace g1 : DataW.trod enc Tryz.prog W 0 sp true n 9 ((cs.drop 1).take (Tryz.prog.cellsOf 9)) = some _ := g1
  rw [s1] at g1
  obtain ⟨v1, e1, q1⟩ := (fits_string Tryz.underlying9) H enc W sp n _ _ g1
  have s2 : Tryz.prog.cellsOf 62 = 3 := by kernel_rfl
  have g2 := hf 2 _ rfl
  rw [List.getElem?_eq_getElem (by omega)] at g2
  replace g2 : DataW.trod enc Tryz.prog W 0 sp true n 62 ((cs.drop 2).take (Tryz.prog.cellsOf 62)) = some _ := g2
  rw [s2] at g2
  obtain ⟨v2, e2, q2⟩ := fits62 H enc W sp n _ _ g2
  have s3 : Tryz.prog.cellsOf 41 = 4 := by kernel_rfl
  have g3 := hf 3 _ rfl
  rw [List.getElem?_eq_getElem (by omega)] at g3
  replace g3 : DataW.trod enc Tryz.prog W 0 sp true n 41 ((cs.drop 5).take (Tryz.prog.cellsOf 41)) = some _ := g3
  rw [s3] at g3
  obtain ⟨v3, e3, q3⟩ := fits41 H enc W sp n _ _ g3
  have s4 : Tryz.prog.cellsOf 41 = 4 := by kernel_rfl
  have g4 := hf 4 _ rfl
  rw [List.getElem?_eq_getElem (by omega)] at g4
  replace g4 : DataW.trod enc Tryz.prog W 0 sp true n 41 ((cs.drop 9).take (Tryz.prog.cellsOf 41)) = some _ := g4
  rw [s4] at g4
  obtain ⟨v4, e4, q4⟩ := fits41 H enc W sp n _ _ g4
  have s5 : Tryz.prog.cellsOf 3 = 1 := by kernel_rfl
  have g5 := hf 5 _ rfl
  rw [List.getElem?_eq_getElem (by omega)] at g5
  replace g5 : DataW.trod enc Tryz.prog W 0 sp true n 3 ((cs.drop 13).take (Tryz.prog.cellsOf 3)) = some _ := g5
  rw [s5] at g5
  obtain ⟨v5, e5, q5⟩ := (fits_int Tryz.underlying3) H enc W sp n _ _ g5
  refine ⟨⟨v0, v1, v2, v3, v4, v5⟩, ?_, q0, q1, q2, q3, q4, q5⟩
  exact pair_take (o := 0) (s := 1) e0 (pair_take (o := 1) (s := 1) e1 (pair_take (o := 2) (s := 3) e2 (pair_take (o := 5) (s := 4) e3 (pair_take (o := 9) (s := 4) e4 (last_take (o := 13) (s := 1) (by omega) e5)))))
end Go.Proofs.YtegdpgpbdcediaaGreatDoor.PFnExactUsedNames
