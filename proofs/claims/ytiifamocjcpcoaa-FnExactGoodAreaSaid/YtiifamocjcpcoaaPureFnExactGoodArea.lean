/- The plain law of FnExactGoodArea: what the program computes is what the reference computes, for every input (no further condition). -/
import Derived.Test.YtiifamocjcpcoaaPFnExactGoodAreax1
namespace Go.Proofs.Ytiifamocjcpcoaa.Pure
open Go.RowKit Go.Proofs.Ytiifamocjcpcoaa.PFnExactGoodArea Go.Proofs.YtiifamocjcpcoaaW.PrintWords Go.Proofs.YtiifamocjcpcoaaW.PrintLast

def goodRefB (r c : Int) : Bool := decide (1 ≤ r ∧ r ≤ 1000 ∧ 1 ≤ c ∧ c ≤ 200)
theorem specGoodRef_is (r c : Int) (a b : Bool) : spec_GoodRef.f r c a b = some (goodRefB r c) := by
  unfold spec_GoodRef.f goodRefB
  by_cases h1 : 1 ≤ r <;> by_cases h2 : r ≤ 1000 <;> by_cases h3 : 1 ≤ c <;> by_cases h4 : c ≤ 200 <;> simp [h1, h2, h3, h4]
theorem implGoodRef_is (r c : Int) (a b : Bool) : impl_GoodRef.f r c a b = some (goodRefB r c) := by
  unfold impl_GoodRef.f impl_Ref_place.f impl_place_good.f goodRefB
  simp only [Option.bind_some]
  by_cases h1 : 1 ≤ r <;> by_cases h2 : r ≤ 1000 <;> by_cases h3 : 1 ≤ c <;> by_cases h4 : c ≤ 200 <;> simp [h1, h2, h3, h4]

def goodAreaB (r c r2 c2 : Int) : Bool := goodRefB r c && goodRefB r2 c2
theorem specGoodArea_is (r c : Int) (a b : Bool) (r2 c2 : Int) (a2 b2 : Bool) : spec_GoodArea.f r c a b r2 c2 a2 b2 = some (goodAreaB r c r2 c2) := by
  unfold spec_GoodArea.f goodAreaB
  simp only [specGoodRef_is, Option.bind_some]
  cases goodRefB r c <;> simp
theorem implGoodArea_is (r c : Int) (a b : Bool) (r2 c2 : Int) (a2 b2 : Bool) : impl_GoodArea.f r c a b r2 c2 a2 b2 = some (goodAreaB r c r2 c2) := by
  unfold impl_GoodArea.f goodAreaB
  simp only [implGoodRef_is, Option.bind_some]
  cases goodRefB r c <;> simp

theorem FnExactGoodArea : ∀ (a0_0 : Int) (a0_1 : Int) (a0_2 : Bool) (a0_3 : Bool) (a0_4 : Int) (a0_5 : Int) (a0_6 : Bool) (a0_7 : Bool), (Lit.int .i64 a0_0).wf = true → (Lit.int .i64 a0_1).wf = true → (Lit.int .i64 a0_4).wf = true → (Lit.int .i64 a0_5).wf = true → laws_FnExactGoodArea.f a0_0 a0_1 a0_2 a0_3 a0_4 a0_5 a0_6 a0_7 = some true := by
  intro a0_0 a0_1 a0_2 a0_3 a0_4 a0_5 a0_6 a0_7 _ _ _ _
  unfold laws_FnExactGoodArea.f laws_toArea.f laws_toRef.f
  simp only [specGoodArea_is, implGoodArea_is, Option.bind_some]
  simp

end Go.Proofs.Ytiifamocjcpcoaa.Pure
