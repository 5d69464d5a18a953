/- The plain law of FnExactBoolOf: what the program computes is what the reference computes, for every input (no further condition). -/
import Derived.Test.YtgemcfmkhkijaaaDoorMFnExactBoolOfa5
namespace Go.Proofs.YtgemcfmkhkijaaaDoor.Pure
open Go.RowKit Go.Proofs.YtgemcfmkhkijaaaDoor.PFnExactBoolOf Go.Proofs.YtgemcfmkhkijaaaDoorW.PrintWords Go.Proofs.YtgemcfmkhkijaaaDoorW.PrintLast

set_option linter.unusedVariables false
set_option linter.unusedSimpArgs false
theorem eqDec_is (n : Bool) (d e : Int) : laws_eqDec.f n d e n d e = some true := by unfold laws_eqDec.f; simp
theorem eqValue_is (k : Int) (n : Bool) (d e : Int) (s : ByteArray) : laws_eqValue.f k n d e s k n d e s = some true := by
  unfold laws_eqValue.f; simp [eqDec_is]
abbrev Val := Int × Bool × Int × Int × ByteArray
def boolW (b : Bool) : Val := if b = true then (3, false, 0, 0, (⟨#[84, 82, 85, 69]⟩ : ByteArray)) else (3, false, 0, 0, (⟨#[70, 65, 76, 83, 69]⟩ : ByteArray))
def errV : Val := (4, false, 0, 0, (⟨#[35, 86, 65, 76, 85, 69, 33]⟩ : ByteArray))
/-- What BoolOf tells. -/
def boolOfV (k : Int) (n : Bool) (d x : Int) (t : ByteArray) : Val :=
  if goodValB k n d x t = true then
    if k = 0 then boolW false
    else if k = 1 then boolW (d != 0)
    else if k = 2 then (if (upS t).toList = ([84, 82, 85, 69] : List UInt8) then boolW true else if (upS t).toList = ([70, 65, 76, 83, 69] : List UInt8) then boolW false else errV)
    else (k, n, d, x, t)
  else errV
theorem l6Bool_is (b : Bool) : spec_l6Bool.f b = some (boolW b) := by unfold spec_l6Bool.f boolW; split <;> rfl
theorem boolValue_is (b : Bool) : impl_boolValue.f b = some (boolW b) := by unfold impl_boolValue.f boolW; split <;> rfl
theorem specBoolOf_is (k : Int) (n : Bool) (d x : Int) (t : ByteArray) (ht : t.size ≤ 1048576) : spec_BoolOf.f 1048591 k n d x t = some (boolOfV k n d x t) := by
  have hv := specGoodValue_is k n d x t ht 1048591 (by omega)
  have hu : spec_l4Upper.f t = some (upS t) := by unfold spec_l4Upper.f; rw [if_pos ht]
  have hj : ∀ s b, spec_l6AsBool.j0 1048591 s b = if b = true then some errV else some (boolW (s.toList == ([84, 82, 85, 69] : List UInt8))) := by
    intro s b
    show spec_l6AsBool.j0 (1048590 + 1) s b = _
    simp only [spec_l6AsBool.j0, l6Bool_is, Option.bind_some]
    rfl
  unfold spec_BoolOf.f boolOfV
  rw [hv]
  simp only [Option.bind_some]
  cases goodValB k n d x t
  · rfl
  · simp only [if_true]
    unfold spec_l6AsBool.f
    simp only [l6Bool_is, Option.bind_some, hu, hj]
    by_cases h0 : k = 0
    · rw [if_pos h0, if_pos h0]; rfl
    rw [if_neg h0, if_neg h0]
    by_cases h1 : k = 1
    · rw [if_pos h1, if_pos h1]; rfl
    rw [if_neg h1, if_neg h1]
    by_cases h2 : k = 2
    · rw [if_pos h2, if_pos h2]
      by_cases e1 : (upS t).toList = ([84, 82, 85, 69] : List UInt8)
      · rw [if_pos e1, if_pos e1, e1]; rfl
      · rw [if_neg e1, if_neg e1]
        by_cases e2 : (upS t).toList = ([70, 65, 76, 83, 69] : List UInt8)
        · rw [if_pos e2, e2]; rfl
        · rw [if_neg e2, show ((upS t).toList != ([70, 65, 76, 83, 69] : List UInt8)) = true from by simpa using e2]; rfl
    · rw [if_neg h2, if_neg h2]; rfl
theorem implBoolOf_is (k : Int) (n : Bool) (d x : Int) (t : ByteArray) (ht : t.size ≤ 1048576) : impl_BoolOf.f 1048591 k n d x t = some (boolOfV k n d x t) := by
  have hv : impl_GoodValue.f k n d x t = some (goodValB k n d x t) := by unfold impl_GoodValue.f; rw [if_pos ht]
  have hu : impl_capitals.f t = some (upS t) := by unfold impl_capitals.f; rw [if_pos ht]
  unfold impl_BoolOf.f boolOfV
  rw [hv]
  simp only [Option.bind_some]
  cases hg : goodValB k n d x t
  · rfl
  · simp only [if_true]
    have hj : ∀ b, impl_BoolOf.j0 1048591 k b k n d x t = if b = true then some (k, n, d, x, t) else if k = 0 then some (boolW false) else if k = 1 then some (boolW (n || (!(d == 0) || (!(x == 0))))) else if (upS t).toList = ([84, 82, 85, 69] : List UInt8) then some (boolW true) else if (upS t).toList = ([70, 65, 76, 83, 69] : List UInt8) then some (boolW false) else some errV := by
      intro b
      show impl_BoolOf.j0 (1048590 + 1) k b k n d x t = _
      simp only [impl_BoolOf.j0, boolValue_is, Option.bind_some, hu]
      rfl
    rw [hj, hj]
    unfold goodValB at hg
    by_cases h3 : k = 3
    · subst h3; rfl
    rw [if_neg h3]
    by_cases h4 : k = 4
    · subst h4; rfl
    rw [show (k == 4) = false from by simpa using h4]
    simp only [Bool.false_eq_true, if_false]
    by_cases h0 : k = 0
    · rw [if_pos h0, if_pos h0]
    rw [if_neg h0, if_neg h0]
    rw [if_neg h0] at hg
    by_cases h1 : k = 1
    · rw [if_pos h1, if_pos h1]
      rw [if_pos h1] at hg
      simp only [Bool.and_eq_true] at hg
      have hd := hg.2
      unfold goodDecB at hd
      rw [decide_eq_true_eq] at hd
      have e : (n || (!(d == 0) || (!(x == 0)))) = (d != 0) := by
        rcases hd with ⟨rfl, rfl, rfl⟩ | ⟨hd, _⟩
        · rfl
        · have : (d == 0) = false := by simp; omega
          simp [bne, this]
      rw [e]
    rw [if_neg h1, if_neg h1]
    rw [if_neg h1] at hg
    by_cases h2 : k = 2
    · rw [if_pos h2]
      split
      · rfl
      · split <;> rfl
    · rw [if_neg h2, if_neg h3, if_neg h4] at hg; cases hg
theorem FnExactBoolOf : ∀ (a0_0 : Int) (a0_1 : Bool) (a0_2 : Int) (a0_3 : Int) (a0_4 : ByteArray), (Lit.int .i64 a0_0).wf = true → (Lit.int .i64 a0_2).wf = true → (Lit.int .i64 a0_3).wf = true → a0_4.size ≤ maxLen → ∃ k, laws_FnExactBoolOf.f k a0_0 a0_1 a0_2 a0_3 a0_4 = some true := by
  intro k n d x t _ _ _ hmax
  have hml : maxLen ≤ 9223372036854775807 := by decide
  refine ⟨1048591, ?_⟩
  unfold laws_FnExactBoolOf.f laws_szValue.f
  rw [wrap_id (x := 1048576 - (t.size : Int)) (by omega) (by omega)]
  by_cases ht : t.size ≤ 1048576
  · rw [if_neg (by omega)]
    simp only [Option.bind_some]
    rw [if_neg (by omega)]
    have htv : laws_toValue.f k n d x t = some (k, n, d, x, t) := rfl
    rw [htv]
    simp only [Option.bind_some, specBoolOf_is k n d x t ht, implBoolOf_is k n d x t ht, eqValue_is, if_true]
  · rw [if_pos (by omega)]; rfl

end Go.Proofs.YtgemcfmkhkijaaaDoor.Pure
