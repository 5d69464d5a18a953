/- The plain law of FnExactWorkdays: what the program computes is what the reference computes, for every input (no further condition). -/
import Derived.Test.YtaclplimbnihkaaMFnExactWorkdaysa1
import Derived.Test.YtaclplimbnihkaaRFnExactWorkdays
namespace Go.Proofs.Ytaclplimbnihkaa.Pure
open Go.RowKit Go.Proofs.Ytaclplimbnihkaa.PFnExactWorkdays Go.Proofs.YtaclplimbnihkaaW.PrintWords Go.Proofs.YtaclplimbnihkaaW.PrintLast

set_option linter.unusedVariables false
set_option linter.unusedSimpArgs false
theorem toIntS_l0 (l : List Int) (hl : l.length ≤ 1048576) : ∀ (d k : Nat) (acc : List Int) (i : Int), 0 ≤ i → (l.length : Int) - i = d → acc.length = l.length → (∀ j : Nat, (j : Int) < i → acc[j]? = l[j]?) → d < k → laws_toIntS.l0 k l acc i = some l := by
  intro d
  induction d with
  | zero =>
    intro k acc i h0 hd hlen hp hk
    obtain ⟨k, rfl⟩ : ∃ m, k = m + 1 := ⟨k - 1, by omega⟩
    simp only [laws_toIntS.l0]
    rw [if_neg (by omega)]
    congr 1
    refine List.ext_getElem? fun j => ?_
    by_cases hj : j < l.length
    · exact hp j (by omega)
    · rw [List.getElem?_eq_none (by omega), List.getElem?_eq_none (by omega)]
  | succ d ih =>
    intro k acc i h0 hd hlen hp hk
    obtain ⟨k, rfl⟩ : ∃ m, k = m + 1 := ⟨k - 1, by omega⟩
    simp only [laws_toIntS.l0]
    rw [if_pos (by omega), if_pos h0, if_pos (by omega), wrap_id (x := i + 1) (by omega) (by omega)]
    refine ih k _ (i + 1) (by omega) (by omega) (by rw [List.length_set]; exact hlen) ?_ (by omega)
    intro j hj
    rw [List.getElem?_set]
    by_cases e : i.toNat = j
    · subst e
      rw [if_pos rfl, if_pos (by omega)]
      unfold rd
      rw [List.getD_eq_getElem?_getD, List.getElem?_eq_getElem (by omega)]
      rfl
    · rw [if_neg e]; exact hp j (by omega)
theorem toIntS_is (l : List Int) (hl : l.length ≤ 1048576) (k : Nat) (hk : l.length < k) : laws_toIntS.f k l = some l := by
  unfold laws_toIntS.f
  rw [if_pos (by omega), if_pos (by omega)]
  refine toIntS_l0 l hl l.length k _ 0 (by omega) (by omega) ?_ (fun j hj => by omega) hk
  rw [List.length_replicate]; omega
theorem eqIntS_l0 (l : List Int) (hl : l.length ≤ 1048576) : ∀ (d k : Nat) (i : Int), 0 ≤ i → (l.length : Int) - i = d → d < k → laws_eqIntS.l0 k l l i = some true := by
  intro d
  induction d with
  | zero =>
    intro k i h0 hd hk
    obtain ⟨k, rfl⟩ : ∃ m, k = m + 1 := ⟨k - 1, by omega⟩
    simp only [laws_eqIntS.l0]
    rw [if_neg (by omega)]
  | succ d ih =>
    intro k i h0 hd hk
    obtain ⟨k, rfl⟩ : ∃ m, k = m + 1 := ⟨k - 1, by omega⟩
    unfold laws_eqIntS.l0
    rw [if_pos (by omega), if_pos h0, if_pos (by omega), if_pos rfl, wrap_id (x := i + 1) (by omega) (by omega)]
    exact ih k (i + 1) (by omega) (by omega) (by omega)
theorem eqIntS_is (l : List Int) (hl : l.length ≤ 1048576) (k : Nat) (hk : l.length < k) : laws_eqIntS.f k l l = some true := by
  unfold laws_eqIntS.f
  rw [if_pos rfl]
  exact eqIntS_l0 l hl l.length k 0 (by omega) (by omega) hk

theorem FnExactWorkdays : ∀ (a0 : Int) (a1 : Int) (l2 : (List Int)), (Lit.int .i64 a0).wf = true → (Lit.int .i64 a1).wf = true → QL (QI .i64) l2 → ∃ k, laws_FnExactWorkdays.f k a0 a1 l2 = some true := by
  intro a b l _ _ hl
  refine ⟨l.length + 2, ?_⟩
  unfold laws_FnExactWorkdays.f
  by_cases h : (l.length : Int) > 1048576
  · rw [if_pos h]
  · rw [if_neg h]
    have hlen : l.length ≤ 1048576 := by omega
    rw [toIntS_is l hlen _ (by omega)]
    have e1 : spec_Workdays.f a b l = some (implWorkV a b l) := rfl
    have e2 : impl_Workdays.f (l.length + 2) a b l = some (implWorkV a b l) := by
      unfold impl_Workdays.f; rw [if_pos (show ∀ x ∈ l, (Lit.int .i64 x).wf = true from fun x hx => hl.2 x hx)]
    simp only [Option.bind_some, e1, e2, if_true]
    rw [eqIntS_is l hlen _ (by omega)]
    simp

end Go.Proofs.Ytaclplimbnihkaa.Pure
