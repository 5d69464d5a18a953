/- What the arguments of FnAreas read as, for its row: each slice is a list of values of its kind, within the language's bounds. No conditions but each theorem's own. -/
import Derived.Test.YtjjignjjnnmajaaMFnAreasa12
import Derived.Deep.Slices
import Derived.Deep.Strs
import Derived.ChangeArms
import Derived.OpenShut
namespace Go.Proofs.Ytjjignjjnnmajaa.PFnAreas
open Go.RowKit Go.Proofs.YtjjignjjnnmajaaW.PrintWords Go.Proofs.YtjjignjjnnmajaaW.PrintLast Go.ChangeShapes Go.WideShapes
set_option linter.unusedVariables false
/-- What reads at type t holds values of the kind d that are as Q says. -/
def Fits {α : Type} (P : Program) (d : Kd α) (t : TypeId) (Q : α → Prop) : Prop :=
  ∀ (H : Type) (enc : TypeId × Value → H) (W : World) (sp : Nat → Bool) (fuel : Nat) (cs : List Value) (x : DataW H × List MemPlace), DataW.trod enc P W 0 sp true fuel t cs = some x → ∃ v, d.K W v cs ∧ Q v
def QI (k : IntKind) (n : Int) : Prop := (Lit.int k n).wf = true
def QB (_ : Bool) : Prop := True
def QS (s : ByteArray) : Prop := s.size ≤ maxLen
def QL {α : Type} (Q : α → Prop) (xs : List α) : Prop := xs.length ≤ 9223372036854775807 ∧ ∀ x ∈ xs, Q x
theorem fits_int {P : Program} {t : TypeId} {k : IntKind} (hu : P.underlying t = some (.int k)) : Fits P (Kd.int k) t (QI k) := by
  intro H enc W sp fuel cs x h
  obtain ⟨n, rfl, _, hw⟩ := DataW.trod_int hu h
  exact ⟨n, rfl, hw⟩
theorem fits_bool {P : Program} {t : TypeId} (hu : P.underlying t = some .bool) : Fits P Kd.bool t QB := by
  intro H enc W sp fuel cs x h
  obtain ⟨b, rfl, _⟩ := DataW.trod_bool hu h
  exact ⟨b, rfl, trivial⟩
theorem fits_string {P : Program} {t : TypeId} (hu : P.underlying t = some .string) : Fits P Kd.string t QS := by
  intro H enc W sp fuel cs x h
  obtain ⟨b, rfl, _, hw⟩ := DataW.trod_string hu h
  exact ⟨b, rfl, hw⟩
/-- The elements of a slice that is read. -/
theorem rows_of_trod {α : Type} {P : Program} {d : Kd α} {Q : α → Prop} {t e : TypeId} (hu : P.underlying t = some (.slice e)) (hc : P.cellsOf e = d.sz) (hf : Fits P d e Q) {H : Type} {enc : TypeId × Value → H} {W : World} {sp : Nat → Bool} {fuel : Nat} {cs : List Value} {x : DataW H × List MemPlace}
    (h : DataW.trod enc P W 0 sp true fuel t cs = some x) : ∃ (A : Option Addr) (c : Nat) (xs : List α), cs = [.slice A xs.length c] ∧ xs.length ≤ c ∧ d.C W A xs.length xs ∧ QL Q xs := by
  rcases Go.Deep.open_slice hu h with ⟨rfl, _⟩ | ⟨a, len, cap, m, n, D, Pl, rfl, _, hl, hm, hmm, _, hel⟩
  · exact ⟨none, 0, [], rfl, Nat.le_refl _, ⟨rfl, by simp, fun h0 => absurd h0 (by simp)⟩, by simp, fun x hx => by cases hx⟩
  · have hml : len ≤ m := by rw [hmm]; split <;> omega
    have hex : ∀ i : Fin len, ∃ v, (∃ c : List Value, c.length = d.sz ∧ d.K W v c ∧ ∀ j u, c[j]? = some u → W.cell? (a.add (i.1 * d.sz + j)) = some u) ∧ Q v := by
      intro ⟨i, hi⟩
      obtain ⟨c, h1, h2⟩ := hel i (by omega)
      obtain ⟨_, h3, h4⟩ := World.cells?_some h1
      obtain ⟨v, hv, hq⟩ := hf H enc W sp n c _ h2
      refine ⟨v, ⟨c, by rw [h3, hc], hv, fun j u hj => ?_⟩, hq⟩
      have hj' := (List.getElem?_eq_some_iff.1 hj).1
      rw [← hc, ← Addr.add_add, h4 j (by omega)]; exact hj
    obtain ⟨g, hg⟩ : ∃ g : Fin len → α, ∀ i, (∃ c : List Value, c.length = d.sz ∧ d.K W (g i) c ∧ ∀ j u, c[j]? = some u → W.cell? (a.add (i.1 * d.sz + j)) = some u) ∧ Q (g i) :=
      ⟨fun i => Classical.choose (hex i), fun i => Classical.choose_spec (hex i)⟩
    have hlen : (List.ofFn g).length = len := List.length_ofFn
    refine ⟨some a, cap, List.ofFn g, by rw [hlen], by rw [hlen]; exact hl, ?_, ?_⟩
    · rw [hlen]
      refine ⟨hlen, by unfold maxLen at hm; omega, fun _ => ⟨a, rfl, fun j q hj => ?_⟩⟩
      have hjl : j < len := by have := (List.getElem?_eq_some_iff.1 hj).1; rw [hlen] at this; exact this
      rw [List.getElem?_ofFn, dif_pos hjl] at hj
      obtain rfl := Option.some.inj hj
      exact (hg ⟨j, hjl⟩).1
    · refine ⟨by rw [hlen]; unfold maxLen at hm; omega, fun q hq => ?_⟩
      obtain ⟨i, rfl⟩ := List.mem_ofFn.1 hq
      exact (hg i).2
theorem fits_slice {α : Type} {P : Program} {d : Kd α} {Q : α → Prop} {t e : TypeId} (hu : P.underlying t = some (.slice e)) (hc : P.cellsOf e = d.sz) (hf : Fits P d e Q) : Fits P (Kd.slice e d) t (QL Q) := by
  intro H enc W sp fuel cs x h
  obtain ⟨A, c, xs, e1, e2, e3, e4⟩ := rows_of_trod hu hc hf h
  exact ⟨xs, ⟨A, c, e1, e2, e3⟩, e4⟩
theorem pair_take {α β : Type} {d0 : Kd α} {d1 : Kd β} {W : World} {x : α} {y : β} {cs : List Value} {o s : Nat} (h0 : d0.K W x ((cs.drop o).take s)) (h1 : d1.K W y (cs.drop (o + s))) : (Kd.pair d0 d1).K W (x, y) (cs.drop o) :=
  ⟨(cs.drop o).take s, cs.drop (o + s), by rw [← List.drop_drop, List.take_append_drop], h0, h1⟩
theorem last_take {α : Type} {d : Kd α} {W : World} {x : α} {cs : List Value} {o s : Nat} (hl : cs.length = o + s) (h : d.K W x ((cs.drop o).take s)) : d.K W x (cs.drop o) := by
  rw [List.take_of_length_le (by rw [List.length_drop]; omega)] at h; exact h

end Go.Proofs.Ytjjignjjnnmajaa.PFnAreas
