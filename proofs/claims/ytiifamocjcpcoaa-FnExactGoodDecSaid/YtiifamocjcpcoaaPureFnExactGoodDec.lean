/- The plain law of FnExactGoodDec: what the program computes is what the reference computes, for every input (no further condition). -/
import Derived.Test.YtiifamocjcpcoaaPFnExactGoodDecx2
namespace Go.Proofs.Ytiifamocjcpcoaa.Pure
open Go.RowKit Go.Proofs.Ytiifamocjcpcoaa.PFnExactGoodDec Go.Proofs.YtiifamocjcpcoaaW.PrintWords Go.Proofs.YtiifamocjcpcoaaW.PrintLast

def goodDecB (n : Bool) (d e : Int) : Bool := decide ((n = false ∧ d = 0 ∧ e = 0) ∨ (1 ≤ d ∧ d ≤ 999999999999999 ∧ ¬ Int.tmod d 10 = 0 ∧ -300 ≤ e ∧ e ≤ 300))
theorem specGoodDec_is (n : Bool) (d e : Int) : spec_GoodDec.f n d e = some (goodDecB n d e) := by
  unfold spec_GoodDec.f goodDecB
  by_cases h0 : d = 0
  · subst h0; rw [if_pos rfl]
    cases n <;> by_cases he : e = 0 <;> simp [he]
  · rw [if_neg h0]
    by_cases h1 : d > 0
    · by_cases h2 : d < 1000000000000000
      · have h2' : d ≤ 999999999999999 := by omega
        have h1' : 1 ≤ d := by omega
        by_cases h3 : Int.tmod d 10 = 0
        · simp [h0, h1, h2, h3]
        · by_cases h4 : e ≥ -300 <;> by_cases h5 : e ≤ 300 <;> simp [h0, h1, h2, h3, h4, h5, h1', h2']
      · have h2' : ¬ d ≤ 999999999999999 := by omega
        simp [h0, h1, h2, h2']
    · have h1' : ¬ 1 ≤ d := by omega
      simp [h0, h1, h1']
theorem implGoodDec_is (n : Bool) (d e : Int) : impl_isGoodDec.f n d e = some (goodDecB n d e) := by
  unfold impl_isGoodDec.f goodDecB
  by_cases h0 : d = 0
  · subst h0
    cases n <;> by_cases he : e = 0 <;> simp [he]
  · by_cases h1 : 1 ≤ d <;> by_cases h2 : d ≤ 999999999999999 <;> by_cases h3 : Int.tmod d 10 = 0 <;> by_cases h4 : e ≥ -300 <;> by_cases h5 : e ≤ 300 <;> simp [h0, h1, h2, h3, h4, h5]

theorem FnExactGoodDec : ∀ (a0_0 : Bool) (a0_1 : Int) (a0_2 : Int), (Lit.int .i64 a0_1).wf = true → (Lit.int .i64 a0_2).wf = true → laws_FnExactGoodDec.f a0_0 a0_1 a0_2 = some true := by
  intro a0_0 a0_1 a0_2 _ _
  unfold laws_FnExactGoodDec.f laws_toDec.f impl_GoodDec.f
  simp [specGoodDec_is, implGoodDec_is]

end Go.Proofs.Ytiifamocjcpcoaa.Pure
