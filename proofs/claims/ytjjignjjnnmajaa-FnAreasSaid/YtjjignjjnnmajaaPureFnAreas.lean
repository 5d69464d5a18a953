/- The plain law of FnAreas: what the program computes is what the reference computes, for every input (no further condition). -/
import Derived.Test.YtjjignjjnnmajaaMFnAreasa12
import Derived.Test.YtjjignjjnnmajaaRFnAreas
namespace Go.Proofs.Ytjjignjjnnmajaa.Pure
open Go.RowKit Go.Proofs.Ytjjignjjnnmajaa.PFnAreas Go.Proofs.YtjjignjjnnmajaaW.PrintWords Go.Proofs.YtjjignjjnnmajaaW.PrintLast

set_option linter.unusedVariables false
set_option linter.unusedSimpArgs false
/-! plain facts on whole numbers -/
theorem wrap_id {x : Int} (h1 : -9223372036854775808 ≤ x) (h2 : x ≤ 9223372036854775807) : wrap64 x = x := by
  unfold wrap64; omega
theorem td_pos {a b : Int} (h : 0 ≤ a) : a.tdiv b = a / b := Int.tdiv_eq_ediv_of_nonneg h
theorem td_neg {a b : Int} (h : a ≤ 0) : a.tdiv b = -((-a) / b) := by
  rw [← Int.tdiv_eq_ediv_of_nonneg (by omega : 0 ≤ -a), Int.neg_tdiv]; omega
theorem tm_pos {a b : Int} (h : 0 ≤ a) : a.tmod b = a % b := Int.tmod_eq_emod_of_nonneg h
theorem tm_neg {a b : Int} (h : a ≤ 0) : a.tmod b = -((-a) % b) := by
  rw [← Int.tmod_eq_emod_of_nonneg (by omega : 0 ≤ -a), Int.neg_tmod]; omega
theorem tm_zero (a b : Int) : a.tmod b = 0 ↔ a % b = 0 := by
  rw [← Int.dvd_iff_tmod_eq_zero, ← Int.dvd_iff_emod_eq_zero]
theorem ediv_is {a b q r : Int} (hb : 0 < b) (h : a = b * q + r) (h0 : 0 ≤ r) (h1 : r < b) : a / b = q := by
  rw [h, Int.add_comm, Int.add_mul_ediv_left _ _ (by omega), Int.ediv_eq_zero_of_lt h0 h1]; omega
theorem ediv_neg_of {a b : Int} (hb : 0 < b) (h : a.tmod b = 0) : a.tdiv b = a / b := by
  have e := Int.mul_tdiv_add_tmod a b
  rw [h] at e
  exact (ediv_is hb (q := a.tdiv b) (r := 0) (by omega) (by omega) hb).symm
theorem ediv_floor {a b : Int} (hb : 0 < b) (ha : a < 0) (h : a.tmod b ≠ 0) : a.tdiv b - 1 = a / b := by
  have e := Int.mul_tdiv_add_tmod a b
  have hm := tm_neg (a := a) (b := b) (by omega)
  have h0 := Int.emod_nonneg (-a) (by omega : b ≠ 0)
  have h1 := Int.emod_lt_of_pos (-a) hb
  refine (ediv_is hb (q := a.tdiv b - 1) (r := a.tmod b + b) ?_ (by omega) (by omega)).symm
  rw [Int.mul_sub]; omega
/-- The floor, as both programs reckon it. -/
theorem floor_is {a b : Int} (hb : 0 < b) (h1 : -4611686018427387904 ≤ a) (h2 : a ≤ 4611686018427387904) :
    (if b = 0 then (none) else (if (Int.tmod a b) = 0 then (some (wrap64 (Int.tdiv a b))) else (if ((decide (a < 0)) != (decide (b < 0))) = true then (some (wrap64 ((wrap64 (Int.tdiv a b)) - 1))) else (some (wrap64 (Int.tdiv a b)))))) = some (a / b) := by
  have hle : a / b ≤ 4611686018427387904 := by
    by_cases h : 0 ≤ a
    · exact Int.le_trans (Int.ediv_le_self b h) h2
    · have := Int.ediv_neg_of_neg_of_pos (by omega : a < 0) hb; omega
  have hge : -4611686018427387904 ≤ a / b := by
    by_cases h : 0 ≤ a
    · have := Int.ediv_nonneg h (by omega : 0 ≤ b); omega
    · exact Int.le_ediv_of_mul_le hb (by have : -4611686018427387904 * b ≤ -4611686018427387904 * 1 := by omega
                                         omega)
  rw [if_neg (by omega : ¬ b = 0)]
  by_cases hm : Int.tmod a b = 0
  · rw [if_pos hm, ediv_neg_of hb hm, wrap_id (by omega) (by omega)]
  · rw [if_neg hm]
    by_cases ha : a < 0
    · have e := ediv_floor hb ha hm
      rw [if_pos (by simp [ha]; omega), wrap_id (x := Int.tdiv a b) (by omega) (by omega), e, wrap_id (by omega) (by omega)]
    · rw [if_neg (by simp [ha]; omega), td_pos (by omega), wrap_id (by omega) (by omega)]

/-! loops, by what they come to in the end ('Ev') -/
theorem ev_down {ρ : Type} {F : Nat → Int → Option ρ} {r : ρ} (n : Nat) (hs : ∀ i : Nat, i < n → Ev (fun k => F k ((i + 1 : Nat) : Int)) r → Ev (fun k => F k (i : Int)) r)
    (he : Ev (fun k => F k (n : Int)) r) : Ev (fun k => F k 0) r := by
  have h : ∀ d i : Nat, i + d = n → Ev (fun k => F k (i : Int)) r := by
    intro d
    induction d with
    | zero => intro i hi; obtain rfl : i = n := by omega
              exact he
    | succ d ih => intro i hi; exact hs i (by omega) (ih (i + 1) (by omega))
  exact h n 0 (by omega)
theorem ev_ex {ρ : Type} {F : Nat → Int → Option ρ} (n : Nat) (hs : ∀ i : Nat, i < n → (∃ r, Ev (fun k => F k ((i + 1 : Nat) : Int)) r) → ∃ r, Ev (fun k => F k (i : Int)) r)
    (he : ∃ r, Ev (fun k => F k (n : Int)) r) : ∃ r, Ev (fun k => F k 0) r := by
  have h : ∀ d i : Nat, i + d = n → ∃ r, Ev (fun k => F k (i : Int)) r := by
    intro d
    induction d with
    | zero => intro i hi; obtain rfl : i = n := by omega
              exact he
    | succ d ih => intro i hi; exact hs i (by omega) (ih (i + 1) (by omega))
  exact h n 0 (by omega)
theorem ev_to {α β : Type} {F : Nat → List β → Int → Option (List β)} (l : List α) (h : α → β) (z : β)
    (hs : ∀ (acc : List β) (i : Nat) (hi : i < l.length) (r : List β), acc.length = l.length → Ev (fun k => F k (acc.set i (h l[i])) ((i + 1 : Nat) : Int)) r → Ev (fun k => F k acc (i : Int)) r)
    (he : ∀ acc : List β, Ev (fun k => F k acc (l.length : Int)) acc) : Ev (fun k => F k (List.replicate l.length z) 0) (l.map h) := by
  have g : ∀ (d i : Nat) (acc : List β), i + d = l.length → acc.length = l.length → (∀ j : Nat, j < i → acc[j]? = (l.map h)[j]?) → Ev (fun k => F k acc (i : Int)) (l.map h) := by
    intro d
    induction d with
    | zero =>
      intro i acc hi hl hp
      obtain rfl : i = l.length := by omega
      have e : acc = l.map h := by
        refine List.ext_getElem? fun j => ?_
        by_cases hj : j < l.length
        · exact hp j hj
        · rw [List.getElem?_eq_none (by omega), List.getElem?_eq_none (by rw [List.length_map]; omega)]
      have := he acc
      rw [e] at this ⊢; exact this
    | succ d ih =>
      intro i acc hi hl hp
      refine hs acc i (by omega) _ hl (ih (i + 1) _ (by omega) (by rw [List.length_set]; exact hl) fun j hj => ?_)
      rw [List.getElem?_set]
      by_cases e : i = j
      · subst e
        rw [if_pos rfl, if_pos (by omega), List.getElem?_map, List.getElem?_eq_getElem (by omega)]; rfl
      · rw [if_neg e]; exact hp j (by omega)
  exact g l.length 0 _ (by omega) List.length_replicate (fun j hj => absurd hj (by omega))
theorem ev_sz {α : Type} {F : Nat → Int → Int → Option Int} (l : List α) (B : α → Prop)
    (hs : ∀ (i : Nat) (hi : i < l.length) (left : Int), 0 ≤ left → left ≤ 1048576 →
      Ev (fun k => F k left (i : Int)) (-1) ∨ (∃ left', 0 ≤ left' ∧ left' ≤ left ∧ B l[i] ∧ ∀ t, Ev (fun k => F k left' ((i + 1 : Nat) : Int)) t → Ev (fun k => F k left (i : Int)) t))
    (he : ∀ left, Ev (fun k => F k left (l.length : Int)) left) (left : Int) (h0 : 0 ≤ left) (h1 : left ≤ 1048576) :
    Ev (fun k => F k left 0) (-1) ∨ ∃ t, 0 ≤ t ∧ t ≤ left ∧ Ev (fun k => F k left 0) t ∧ ∀ x ∈ l, B x := by
  have g : ∀ (d i : Nat) (left : Int), i + d = l.length → 0 ≤ left → left ≤ 1048576 → Ev (fun k => F k left (i : Int)) (-1) ∨ ∃ t, 0 ≤ t ∧ t ≤ left ∧ Ev (fun k => F k left (i : Int)) t ∧ ∀ j (hj : j < l.length), i ≤ j → B l[j] := by
    intro d
    induction d with
    | zero =>
      intro i left hi h0 h1
      obtain rfl : i = l.length := by omega
      exact .inr ⟨left, h0, Int.le_refl _, he left, fun j hj hij => absurd hj (by omega)⟩
    | succ d ih =>
      intro i left hi h0 h1
      rcases hs i (by omega) left h0 h1 with h | ⟨left', g0, g1, hB, hk⟩
      · exact .inl h
      · rcases ih (i + 1) left' (by omega) g0 (by omega) with h | ⟨t, t0, t1, ht, hb⟩
        · exact .inl (hk _ h)
        · refine .inr ⟨t, t0, by omega, hk _ ht, fun j hj hij => ?_⟩
          by_cases e : i = j
          · subst e; exact hB
          · exact hb j hj (by omega)
  rcases g l.length 0 left (by omega) h0 h1 with h | ⟨t, t0, t1, ht, hb⟩
  · exact .inl h
  · refine .inr ⟨t, t0, t1, ht, fun x hx => ?_⟩
    obtain ⟨j, hj, rfl⟩ := List.getElem_of_mem hx
    exact hb j hj (Nat.zero_le _)
theorem getD_at {α : Type} (l : List α) (z : α) (i : Nat) (h : i < l.length) : l.getD ((i : Int)).toNat z = l[i] := by
  rw [Int.toNat_natCast, List.getD_eq_getElem?_getD, List.getElem?_eq_getElem h]; rfl
theorem ev_all {α : Type} {F : Nat → Int → Option Bool} (l : List α) (p : α → Bool) (b : Bool)
    (hs : ∀ (i : Nat) (hi : i < l.length) (r : Bool), p l[i] = true → Ev (fun k => F k ((i + 1 : Nat) : Int)) r → Ev (fun k => F k (i : Int)) r)
    (hf : ∀ (i : Nat) (hi : i < l.length) (r : Bool), p l[i] = false → Ev (fun k => F k ((i + 1 : Nat) : Int)) r → Ev (fun k => F k (i : Int)) false)
    (he : Ev (fun k => F k (l.length : Int)) b) : Ev (fun k => F k 0) (l.all p && b) := by
  have h : ∀ d i : Nat, i + d = l.length → Ev (fun k => F k (i : Int)) ((l.drop i).all p && b) := by
    intro d
    induction d with
    | zero =>
      intro i hi; obtain rfl : i = l.length := by omega
      rw [List.drop_length]; exact he
    | succ d ih =>
      intro i hi
      have hlt : i < l.length := by omega
      rw [List.drop_eq_getElem_cons hlt, List.all_cons]
      cases hp : p l[i]
      · exact hf i hlt _ hp (ih (i + 1) (by omega))
      · exact hs i hlt _ hp (ih (i + 1) (by omega))
  exact h l.length 0 (by omega)

def goodRefB (r c : Int) : Bool := decide (1 ≤ r ∧ r ≤ 1000 ∧ 1 ≤ c ∧ c ≤ 200)
theorem specGoodRef_is (r c : Int) (a b : Bool) : spec_GoodRef.f r c a b = some (goodRefB r c) := by
  unfold spec_GoodRef.f goodRefB
  by_cases h1 : 1 ≤ r <;> by_cases h2 : r ≤ 1000 <;> by_cases h3 : 1 ≤ c <;> by_cases h4 : c ≤ 200 <;> simp [h1, h2, h3, h4]
theorem implGoodRef_is (r c : Int) (a b : Bool) : impl_GoodRef.f r c a b = some (goodRefB r c) := by
  unfold impl_GoodRef.f impl_Ref_place.f impl_place_good.f goodRefB
  simp only [Option.bind_some]
  by_cases h1 : 1 ≤ r <;> by_cases h2 : r ≤ 1000 <;> by_cases h3 : 1 ≤ c <;> by_cases h4 : c ≤ 200 <;> simp [h1, h2, h3, h4]

def goodAreaB (r c r2 c2 : Int) : Bool := goodRefB r c && goodRefB r2 c2
theorem specGoodArea_is (r c : Int) (a b : Bool) (r2 c2 : Int) (a2 b2 : Bool) : spec_GoodArea.f r c a b r2 c2 a2 b2 = some (goodAreaB r c r2 c2) := by
  unfold spec_GoodArea.f goodAreaB
  simp only [specGoodRef_is, Option.bind_some]
  cases goodRefB r c <;> simp
theorem implGoodArea_is (r c : Int) (a b : Bool) (r2 c2 : Int) (a2 b2 : Bool) : impl_GoodArea.f r c a b r2 c2 a2 b2 = some (goodAreaB r c r2 c2) := by
  unfold impl_GoodArea.f goodAreaB
  simp only [implGoodRef_is, Option.bind_some]
  cases goodRefB r c <;> simp

theorem specMin_is (a b : Int) : spec_l3Min.f a b = some (min a b) := by
  unfold spec_l3Min.f
  by_cases h : a < b
  · rw [if_pos h]; congr 1; omega
  · rw [if_neg h]; congr 1; omega
theorem specMax_is (a b : Int) : spec_l3Max.f a b = some (max a b) := by
  unfold spec_l3Max.f
  by_cases h : a > b
  · rw [if_pos h]; congr 1; omega
  · rw [if_neg h]; congr 1; omega
theorem mn_is (a b : Int) : mn a b = min a b := by unfold mn; omega
theorem mx_is (a b : Int) : mx a b = max a b := by unfold mx; omega
/-- Normal's corners, whatever the fixes. -/
theorem specNormal_is (r c : Int) (a b : Bool) (r2 c2 : Int) (a2 b2 : Bool) : ∃ y1 y2 y3 y4, spec_l3Normal.f r c a b r2 c2 a2 b2 = some (min r r2, min c c2, y1, y2, max r r2, max c c2, y3, y4) := by
  unfold spec_l3Normal.f
  by_cases h1 : r > r2
  · by_cases h2 : c > c2
    · rw [if_pos h1, if_pos h2, show min r r2 = r2 from by omega, show min c c2 = c2 from by omega, show max r r2 = r from by omega, show max c c2 = c from by omega]; exact ⟨_, _, _, _, rfl⟩
    · rw [if_pos h1, if_neg h2, show min r r2 = r2 from by omega, show min c c2 = c from by omega, show max r r2 = r from by omega, show max c c2 = c2 from by omega]; exact ⟨_, _, _, _, rfl⟩
  · by_cases h2 : c > c2
    · rw [if_neg h1, if_pos h2, show min r r2 = r from by omega, show min c c2 = c2 from by omega, show max r r2 = r2 from by omega, show max c c2 = c from by omega]; exact ⟨_, _, _, _, rfl⟩
    · rw [if_neg h1, if_neg h2, show min r r2 = r from by omega, show min c c2 = c from by omega, show max r r2 = r2 from by omega, show max c c2 = c2 from by omega]; exact ⟨_, _, _, _, rfl⟩

/-- What Hull tells of two areas' corners. -/
def hullV (r c r2 c2 s d s2 d2 : Int) : Int × Int × Bool × Bool × Int × Int × Bool × Bool :=
  if goodAreaB r c r2 c2 && goodAreaB s d s2 d2 then (min (min r r2) (min s s2), min (min c c2) (min d d2), false, false, max (max r r2) (max s s2), max (max c c2) (max d d2), false, false) else (0, 0, false, false, 0, 0, false, false)
theorem specHull_is (k : Nat) (r c : Int) (a b : Bool) (r2 c2 : Int) (a2 b2 : Bool) (s d : Int) (e f : Bool) (s2 d2 : Int) (e2 f2 : Bool) :
    spec_Hull.f (k + 1) r c a b r2 c2 a2 b2 s d e f s2 d2 e2 f2 = some (hullV r c r2 c2 s d s2 d2) := by
  unfold spec_Hull.f hullV
  simp only [specGoodArea_is, Option.bind_some]
  obtain ⟨y1, y2, y3, y4, e1⟩ := specNormal_is r c a b r2 c2 a2 b2
  obtain ⟨z1, z2, z3, z4, e2⟩ := specNormal_is s d e f s2 d2 e2 f2
  cases h1 : goodAreaB r c r2 c2 <;> cases h2 : goodAreaB s d s2 d2 <;>
    simp [spec_Hull.j0, e1, e2, specMin_is, specMax_is, spec_l3Area.f]
theorem implHull_is (k : Nat) (r c : Int) (a b : Bool) (r2 c2 : Int) (a2 b2 : Bool) (s d : Int) (e f : Bool) (s2 d2 : Int) (e2 f2 : Bool) :
    impl_Hull.f (k + 1) r c a b r2 c2 a2 b2 s d e f s2 d2 e2 f2 = some (hullV r c r2 c2 s d s2 d2) := by
  unfold impl_Hull.f hullV
  simp only [implGoodArea_is, Option.bind_some]
  have ebo : ∀ x y z t : Int, ∃ q, impl_blockOf.f x y z t = some (x, y, z, t, q) := by
    intro x y z t; unfold impl_blockOf.f; split <;> exact ⟨_, rfl⟩
  obtain ⟨q, hq⟩ := ebo (min (min r r2) (min s s2)) (min (min c c2) (min d d2)) (max (max r r2) (max s s2)) (max (max c c2) (max d d2))
  cases h1 : goodAreaB r c r2 c2
  · simp only [Bool.false_and, Bool.false_eq_true, if_false, impl_Hull.j0, if_true]
  · cases h2 : goodAreaB s d s2 d2
    · simp only [Bool.and_false, Bool.false_eq_true, if_false, impl_Hull.j0, if_true, Bool.not_false]
    · simp only [Bool.and_self, Bool.not_true, Bool.false_eq_true, if_false, impl_Hull.j0, if_true, impl_Area_block.f, impl_block_area.f, hq, Option.bind_some, mn_is, mx_is]

/-- What Meet tells of two areas' corners. -/
def meetV (r c r2 c2 s d s2 d2 : Int) : Int × Int × Bool × Bool × Int × Int × Bool × Bool × Bool :=
  if goodAreaB r c r2 c2 && goodAreaB s d s2 d2 && decide (max (min r r2) (min s s2) ≤ min (max r r2) (max s s2) ∧ max (min c c2) (min d d2) ≤ min (max c c2) (max d d2)) then
    (max (min r r2) (min s s2), max (min c c2) (min d d2), false, false, min (max r r2) (max s s2), min (max c c2) (max d d2), false, false, true)
  else (0, 0, false, false, 0, 0, false, false, false)
theorem specMeet_is (k : Nat) (r c : Int) (a b : Bool) (r2 c2 : Int) (a2 b2 : Bool) (s d : Int) (e f : Bool) (s2 d2 : Int) (e2 f2 : Bool) :
    spec_Meet.f (k + 1) r c a b r2 c2 a2 b2 s d e f s2 d2 e2 f2 = some (meetV r c r2 c2 s d s2 d2) := by
  unfold spec_Meet.f meetV
  simp only [specGoodArea_is, Option.bind_some]
  obtain ⟨y1, y2, y3, y4, e1⟩ := specNormal_is r c a b r2 c2 a2 b2
  obtain ⟨z1, z2, z3, z4, e2'⟩ := specNormal_is s d e f s2 d2 e2 f2
  cases h1 : goodAreaB r c r2 c2
  · simp [spec_Meet.j0]
  · cases h2 : goodAreaB s d s2 d2
    · simp [spec_Meet.j0]
    · simp only [spec_Meet.j0, e1, e2', specMin_is, specMax_is, spec_l3Area.f, Option.bind_some, if_true, Bool.not_true, Bool.false_eq_true, if_false, Bool.and_self, Bool.true_and]
      by_cases h3 : max (min r r2) (min s s2) > min (max r r2) (max s s2)
      · rw [if_pos h3, decide_eq_false (by omega)]; simp
      · rw [if_neg h3]
        by_cases h4 : max (min c c2) (min d d2) > min (max c c2) (max d d2)
        · rw [if_pos h4, decide_eq_false (by omega)]; simp
        · rw [if_neg h4, decide_eq_true (by omega)]; simp
theorem implMeet_is (k : Nat) (r c : Int) (a b : Bool) (r2 c2 : Int) (a2 b2 : Bool) (s d : Int) (e f : Bool) (s2 d2 : Int) (e2 f2 : Bool) :
    impl_Meet.f (k + 1) r c a b r2 c2 a2 b2 s d e f s2 d2 e2 f2 = some (meetV r c r2 c2 s d s2 d2) := by
  unfold impl_Meet.f meetV
  simp only [implGoodArea_is, Option.bind_some]
  cases h1 : goodAreaB r c r2 c2
  · simp [impl_Meet.j0]
  · cases h2 : goodAreaB s d s2 d2
    · simp [impl_Meet.j0]
    · simp only [impl_Meet.j0, impl_Area_block.f, impl_blockOf.f, impl_block_area.f, mn_is, mx_is, Option.bind_some, if_true, Bool.not_true, Bool.false_eq_true, if_false, Bool.and_self, Bool.true_and]
      by_cases h3 : max (min r r2) (min s s2) ≤ min (max r r2) (max s s2)
      · rw [if_pos h3]
        by_cases h4 : max (min c c2) (min d d2) ≤ min (max c c2) (max d d2)
        · simp only [Option.bind_some]; rw [decide_eq_true h4, decide_eq_true (And.intro h3 h4)]; simp
        · simp only [Option.bind_some]; rw [decide_eq_false h4, decide_eq_false (fun h => h4 h.2)]; simp
      · rw [if_neg h3, decide_eq_false (fun h => h3 h.1)]; simp

def withoutV (r c r2 c2 s d s2 d2 : Int) : List S26 :=
  if goodAreaB r c r2 c2 && goodAreaB s d s2 d2 then
    (if max (min r r2) (min s s2) ≤ min (max r r2) (max s s2) ∧ max (min c c2) (min d d2) ≤ min (max c c2) (max d d2) then
      piecesV (min r r2) (min c c2) (max r r2) (max c c2) (min s s2) (min d d2) (max s s2) (max d d2) else [areaV (min r r2) (min c c2) (max r r2) (max c c2)])
  else []
theorem implWithout_is (r c : Int) (a b : Bool) (r2 c2 : Int) (a2 b2 : Bool) (s d : Int) (e f : Bool) (s2 d2 : Int) (e2 f2 : Bool) :
    impl_Without.f r c a b r2 c2 a2 b2 s d e f s2 d2 e2 f2 = some (withoutV r c r2 c2 s d s2 d2) := by
  unfold impl_Without.f withoutV
  simp only [implGoodArea_is, Option.bind_some, implMeet_is 8, mn_is, mx_is]
  cases h1 : goodAreaB r c r2 c2
  · simp
  · cases h2 : goodAreaB s d s2 d2
    · simp
    · simp only [if_true, Option.bind_some, Bool.and_self]
      unfold meetV
      rw [h1, h2]
      by_cases h : max (min r r2) (min s s2) ≤ min (max r r2) (max s s2) ∧ max (min c c2) (min d d2) ≤ min (max c c2) (max d d2)
      · rw [decide_eq_true h, if_pos (by rfl), if_pos h]
        first | done | simp
      · rw [decide_eq_false h, if_neg (by simp), if_neg h]
        first | done | simp
theorem goodB_rng {r c r2 c2 : Int} (h : goodAreaB r c r2 c2 = true) : 1 ≤ r ∧ r ≤ 1000 ∧ 1 ≤ c ∧ c ≤ 200 ∧ 1 ≤ r2 ∧ r2 ≤ 1000 ∧ 1 ≤ c2 ∧ c2 ≤ 200 := by
  unfold goodAreaB goodRefB at h
  simp only [Bool.and_eq_true, decide_eq_true_eq] at h
  omega
theorem piece_if (p : Prop) [Decidable p] (r c tr tc : Int) (h : p ↔ (r ≤ tr ∧ c ≤ tc)) : pieceV r c tr tc = if p then [areaV r c tr tc] else [] := by
  unfold pieceV
  by_cases hp : p
  · rw [if_pos hp, if_pos (h.1 hp)]
  · rw [if_neg hp, if_neg (fun q => hp (h.2 q))]
theorem pieceV_le (r c tr tc : Int) : (pieceV r c tr tc).length ≤ 1 := by unfold pieceV; split <;> simp
theorem woj2 (k : Nat) (acc : List S26) (hl : acc.length ≤ 4) (xr xc : Int) (p1 p2 : Bool) (xt xu : Int) (p3 p4 : Bool) (mr mc : Int) (q1 q2 : Bool) (mt mu : Int) (q3 q4 : Bool) :
    spec_Without.j2 (k + 1) acc xr xc p1 p2 xt xu p3 p4 mr mc q1 q2 mt mu q3 q4 = some (acc ++ (if xc < mc then [areaV mr xc mt (wrap64 (mc - 1))] else []) ++ (if xu > mu then [areaV mr (wrap64 (mu + 1)) mt xu] else [])) := by
  rw [spec_Without.j2]
  by_cases c1 : xc < mc
  · rw [if_pos c1, if_pos c1]
    simp only [spec_l3Area.f, Option.bind_some]
    rw [if_pos (by omega)]
    by_cases c2 : xu > mu
    · rw [if_pos c2, if_pos c2, if_pos (by rw [List.length_append]; simp; omega)]; rfl
    · rw [if_neg c2, if_neg c2, List.append_nil]; rfl
  · rw [if_neg c1, if_neg c1, List.append_nil]
    by_cases c2 : xu > mu
    · rw [if_pos c2, if_pos c2]
      simp only [spec_l3Area.f, Option.bind_some]
      rw [if_pos (by omega)]; rfl
    · rw [if_neg c2, if_neg c2, List.append_nil]
theorem woj1 (k : Nat) (acc : List S26) (hl : acc.length ≤ 3) (xr xc : Int) (p1 p2 : Bool) (xt xu : Int) (p3 p4 : Bool) (mr mc : Int) (q1 q2 : Bool) (mt mu : Int) (q3 q4 : Bool) :
    spec_Without.j1 (k + 2) acc xr xc p1 p2 xt xu p3 p4 mr mc q1 q2 mt mu q3 q4 = some (acc ++ (if xt > mt then [areaV (wrap64 (mt + 1)) xc xt xu] else []) ++ (if xc < mc then [areaV mr xc mt (wrap64 (mc - 1))] else []) ++ (if xu > mu then [areaV mr (wrap64 (mu + 1)) mt xu] else [])) := by
  rw [spec_Without.j1]
  by_cases c1 : xt > mt
  · rw [if_pos c1, if_pos c1]
    simp only [spec_l3Area.f, Option.bind_some]
    rw [if_pos (by omega), woj2 k _ (by rw [List.length_append]; simp; omega)]; rfl
  · rw [if_neg c1, if_neg c1, woj2 k _ (by omega), List.append_nil]
theorem if_area (p : Prop) [Decidable p] (x y : S26) (h : p → x = y) : (if p then [x] else []) = (if p then [y] else []) := by
  by_cases hp : p
  · rw [if_pos hp, if_pos hp, h hp]
  · rw [if_neg hp, if_neg hp]
theorem specWithout_is (k : Nat) (r c : Int) (a b : Bool) (r2 c2 : Int) (a2 b2 : Bool) (s d : Int) (e f : Bool) (s2 d2 : Int) (e2 f2 : Bool) :
    spec_Without.f (k + 4) r c a b r2 c2 a2 b2 s d e f s2 d2 e2 f2 = some (withoutV r c r2 c2 s d s2 d2) := by
  unfold spec_Without.f withoutV
  simp only [specGoodArea_is, Option.bind_some]
  cases h1 : goodAreaB r c r2 c2
  · simp [spec_Without.j0]
  · cases h2 : goodAreaB s d s2 d2
    · simp [spec_Without.j0]
    · obtain ⟨y1, y2, y3, y4, e1⟩ := specNormal_is r c a b r2 c2 a2 b2
      have g1 := goodB_rng h1; have g2 := goodB_rng h2
      have hn : goodAreaB (min r r2) (min c c2) (max r r2) (max c c2) = true := by
        unfold goodAreaB goodRefB; simp only [Bool.and_eq_true, decide_eq_true_eq]; omega
      simp only [if_true, Bool.not_true, Bool.and_self]
      rw [spec_Without.j0]
      simp only [Bool.false_eq_true, if_false, e1, Option.bind_some, specMeet_is (k + 2)]
      unfold meetV
      rw [hn, h2, show min (min r r2) (max r r2) = min r r2 from by omega, show max (min r r2) (max r r2) = max r r2 from by omega, show min (min c c2) (max c c2) = min c c2 from by omega, show max (min c c2) (max c c2) = max c c2 from by omega]
      by_cases hm : max (min r r2) (min s s2) ≤ min (max r r2) (max s s2) ∧ max (min c c2) (min d d2) ≤ min (max c c2) (max d d2)
      · rw [decide_eq_true hm, if_pos (show (true && true && true) = true from rfl), if_pos hm]
        unfold piecesV
        have x1 : min r r2 ≤ max r r2 := by omega
        have x2 : min c c2 ≤ max c c2 := by omega
        generalize min r r2 = xr at *; generalize min c c2 = xc at *; generalize max r r2 = xt at *; generalize max c c2 = xu at *
        have z1 : 1 ≤ min s s2 ∧ min s s2 ≤ 1000 := by omega
        have z2 : 1 ≤ min d d2 ∧ min d d2 ≤ 1000 := by omega
        have z3 : 1 ≤ max s s2 ∧ max s s2 ≤ 1000 := by omega
        have z4 : 1 ≤ max d d2 ∧ max d d2 ≤ 1000 := by omega
        generalize min s s2 = yr at *; generalize min d d2 = yc at *; generalize max s s2 = yt at *; generalize max d d2 = yu at *
        simp only [mn_is, mx_is]
        rw [wrap_id (x := yr - 1) (by omega) (by omega), wrap_id (x := yt + 1) (by omega) (by omega), wrap_id (x := yc - 1) (by omega) (by omega), wrap_id (x := yu + 1) (by omega) (by omega)]
        rw [piece_if (xr < max xr yr) xr xc (min xt (yr - 1)) xu (by omega), piece_if (xt > min xt yt) (max xr (yt + 1)) xc xt xu (by omega), piece_if (xc < max xc yc) (max xr yr) xc (min xt yt) (min xu (yc - 1)) (by omega), piece_if (xu > min xu yu) (max xr yr) (max xc (yu + 1)) (min xt yt) xu (by omega)]
        have q1 : xr < max xr yr → min xt (yr - 1) = max xr yr - 1 := by omega
        have q2 : xt > min xt yt → max xr (yt + 1) = min xt yt + 1 := by omega
        have q3 : xc < max xc yc → min xu (yc - 1) = max xc yc - 1 := by omega
        have q4 : xu > min xu yu → max xc (yu + 1) = min xu yu + 1 := by omega
        have r1 : 1 ≤ max xr yr ∧ max xr yr ≤ 1000 := by omega
        have r2' : 1 ≤ min xt yt ∧ min xt yt ≤ 1000 := by omega
        have r3 : 1 ≤ max xc yc ∧ max xc yc ≤ 1000 := by omega
        have r4 : 1 ≤ min xu yu ∧ min xu yu ≤ 1000 := by omega
        generalize max xr yr = mr at *; generalize min xt yt = mt at *; generalize max xc yc = mc at *; generalize min xu yu = mu at *
        have w1 := wrap_id (x := mr - 1) (by omega) (by omega)
        have w2 := wrap_id (x := mt + 1) (by omega) (by omega)
        have w3 := wrap_id (x := mc - 1) (by omega) (by omega)
        have w4 := wrap_id (x := mu + 1) (by omega) (by omega)
        rw [if_area (xr < mr) (areaV xr xc (min xt (yr - 1)) xu) (areaV xr xc (wrap64 (mr - 1)) xu) (fun h => by rw [q1 h, w1]), if_area (xt > mt) (areaV (max xr (yt + 1)) xc xt xu) (areaV (wrap64 (mt + 1)) xc xt xu) (fun h => by rw [q2 h, w2]), if_area (xc < mc) (areaV mr xc mt (min xu (yc - 1))) (areaV mr xc mt (wrap64 (mc - 1))) (fun h => by rw [q3 h, w3]), if_area (xu > mu) (areaV mr (max xc (yu + 1)) mt xu) (areaV mr (wrap64 (mu + 1)) mt xu) (fun h => by rw [q4 h, w4])]
        simp only [if_true, spec_l3Area.f, Option.bind_some]
        by_cases c1 : xr < mr
        · rw [if_pos c1, if_pos c1, if_pos (by simp), woj1 (k + 1) _ (by simp)]; rfl
        · rw [if_neg c1, if_neg c1, woj1 (k + 1) _ (by simp)]
      · rw [decide_eq_false hm, if_neg (by simp), if_neg hm]
        simp [spec_l3Area.f, areaV]
theorem withoutV_len (r c r2 c2 s d s2 d2 : Int) : (withoutV r c r2 c2 s d s2 d2).length ≤ 4 := by
  unfold withoutV
  split
  · split
    · unfold piecesV
      rw [List.length_append, List.length_append, List.length_append]
      have h1 := pieceV_le (min r r2) (min c c2) (mn (max r r2) (wrap64 (min s s2 - 1))) (max c c2)
      have h2 := pieceV_le (mx (min r r2) (wrap64 (max s s2 + 1))) (min c c2) (max r r2) (max c c2)
      have h3 := pieceV_le (mx (min r r2) (min s s2)) (min c c2) (mn (max r r2) (max s s2)) (mn (max c c2) (wrap64 (min d d2 - 1)))
      have h4 := pieceV_le (mx (min r r2) (min s s2)) (mx (min c c2) (wrap64 (max d d2 + 1))) (mn (max r r2) (max s s2)) (max c c2)
      omega
    · simp
  · simp

/-! the cursor that draws: it always answers -/
def Bytes (l : List Int) : Prop := ∀ x ∈ l, 0 ≤ x ∧ x ≤ 255
theorem bytes_of {l : List Int} (h : ∀ x ∈ l, (Lit.int .u8 x).wf = true) : Bytes l := fun x hx => by
  have := h x hx
  simpa [Lit.wf, IntKind.min, IntKind.max, IntKind.signed, IntKind.bits] using this
theorem wf64_of {x : Int} (h1 : -9223372036854775808 ≤ x) (h2 : x ≤ 9223372036854775807) : (Lit.int .i64 x).wf = true := by
  simp [Lit.wf, IntKind.min, IntKind.max, IntKind.signed, IntKind.bits]
  exact ⟨h1, h2⟩
theorem wrap_rng (x : Int) : -9223372036854775808 ≤ wrap64 x ∧ wrap64 x ≤ 9223372036854775807 := by unfold wrap64; omega
theorem wf_wrap (x : Int) : (Lit.int .i64 (wrap64 x)).wf = true := wf64_of (wrap_rng x).1 (wrap_rng x).2
theorem wrapu_rng (x : Int) : 0 ≤ IntKind.u64.wrap x ∧ IntKind.u64.wrap x < 18446744073709551616 := by
  have e : IntKind.u64.wrap x = x % 18446744073709551616 := rfl
  rw [e]; omega
theorem wrapu_id {x : Int} (h1 : 0 ≤ x) (h2 : x < 18446744073709551616) : IntKind.u64.wrap x = x := by
  have e : IntKind.u64.wrap x = x % 18446744073709551616 := rfl
  rw [e]; omega
theorem byte_rd {l : List Int} (hb : Bytes l) {i : Int} (h0 : 0 ≤ i) (h1 : i < l.length) : 0 ≤ rd l i ∧ rd l i ≤ 255 := by
  have hlt : i.toNat < l.length := by omega
  have e : rd l i = l[i.toNat] := by unfold rd; rw [List.getD_eq_getElem?_getD, List.getElem?_eq_getElem hlt]; rfl
  rw [e]; exact hb _ (List.getElem_mem hlt)
theorem and255 (x : Int) : 0 ≤ Go.bits .and .u64 x 255 ∧ Go.bits .and .u64 x 255 ≤ 255 := by
  show 0 ≤ IntKind.u64.wrap (((BitVec.ofInt 64 x) &&& (BitVec.ofInt 64 255)).toNat : Int) ∧ IntKind.u64.wrap (((BitVec.ofInt 64 x) &&& (BitVec.ofInt 64 255)).toNat : Int) ≤ 255
  have e : (BitVec.ofInt 64 255).toNat = 255 := by decide
  have h : ((BitVec.ofInt 64 x) &&& (BitVec.ofInt 64 255)).toNat ≤ 255 := by
    rw [BitVec.toNat_and, e]; exact Nat.and_le_right
  generalize ((BitVec.ofInt 64 x) &&& (BitVec.ofInt 64 255)).toNat = n at h
  rw [wrapu_id (by omega) (by omega)]; omega
theorem or_rng (p q : Int) : 0 ≤ Go.bits .or .u64 p q ∧ Go.bits .or .u64 p q < 18446744073709551616 := by
  show 0 ≤ IntKind.u64.wrap (((BitVec.ofInt 64 p) ||| (BitVec.ofInt 64 q)).toNat : Int) ∧ IntKind.u64.wrap (((BitVec.ofInt 64 p) ||| (BitVec.ofInt 64 q)).toNat : Int) < 18446744073709551616
  exact wrapu_rng _
theorem next_ok (l : List Int) (hb : Bytes l) (a s : Int) (h0 : 0 ≤ a) (h1 : a ≤ 4611686018427387904) : ∃ b s', spec_l1Cur_next.f l a s = some (b, a + 1, s') ∧ 0 ≤ b ∧ b ≤ 255 := by
  unfold spec_l1Cur_next.f
  have hw : wrap64 (a + 1) = a + 1 := wrap_id (by omega) (by omega)
  by_cases h : a < (l.length : Int)
  · have hr := byte_rd hb h0 h
    rw [if_pos h, if_pos h0, hw, if_pos (by omega)]
    exact ⟨_, _, rfl, by rw [wrap_id (by omega) (by omega)]; exact hr.1, by rw [wrap_id (by omega) (by omega)]; exact hr.2⟩
  · rw [if_neg h, hw, if_neg (by omega)]
    have h2 := and255 (IntKind.u64.wrap (IntKind.u64.wrap (IntKind.u64.wrap (s * 6364136223846793005) + 0) + 1442695040888963407) / 1099511627776)
    exact ⟨_, _, rfl, by rw [wrap_id (by omega) (by omega)]; exact h2.1, by rw [wrap_id (by omega) (by omega)]; exact h2.2⟩
theorem pick_ok (l : List Int) (hb : Bytes l) (a s n : Int) (h0 : 0 ≤ a) (h1 : a ≤ 4611686018427387000) : ∃ x a' s', spec_l1Cur_pick.f l a s n = some (x, a', s') ∧ a ≤ a' ∧ a' ≤ a + 2 ∧ 0 ≤ x ∧ (1 ≤ n → x < n) := by
  unfold spec_l1Cur_pick.f
  by_cases hn : n ≤ 1
  · rw [if_pos hn]; exact ⟨0, a, s, rfl, by omega, by omega, by omega, fun _ => by omega⟩
  · rw [if_neg hn]
    obtain ⟨b, s1, e1, b0, b1⟩ := next_ok l hb a s h0 (by omega)
    rw [e1]; simp only [Option.bind_some]
    by_cases hg : n > 200
    · rw [if_pos hg]
      obtain ⟨c, s2, e2, c0, c1⟩ := next_ok l hb (a + 1) s1 (by omega) (by omega)
      rw [e2]; simp only [Option.bind_some]
      rw [if_neg (by omega), wrap_id (x := b * 256) (by omega) (by omega), wrap_id (by omega) (by omega), tm_pos (by omega)]
      exact ⟨_, _, _, rfl, by omega, by omega, Int.emod_nonneg _ (by omega), fun _ => Int.emod_lt_of_pos _ (by omega)⟩
    · rw [if_neg hg, if_neg (by omega), tm_pos b0]
      exact ⟨_, _, _, rfl, by omega, by omega, Int.emod_nonneg _ (by omega), fun _ => Int.emod_lt_of_pos _ (by omega)⟩

theorem one_ok (l : List Int) (hb : Bytes l) (a s n : Int) (h0 : 0 ≤ a) (h1 : a ≤ 4611686018427387000) : ∃ x a' s', spec_l1Cur_one.f l a s n = some (x, a', s') ∧ a ≤ a' ∧ a' ≤ a + 2 := by
  obtain ⟨x, a', s', e, h2, h3, _⟩ := pick_ok l hb a s n h0 h1
  unfold spec_l1Cur_one.f
  rw [e]; exact ⟨_, a', s', rfl, h2, h3⟩

/-! the draws -/
theorem cref_ok (l : List Int) (hb : Bytes l) (a s : Int) (h0 : 0 ≤ a) (h1 : a ≤ 4611686018427380000) : ∃ r c p q a' s', spec_l1Cur_ref.f l a s = some (r, c, p, q, a', s') ∧ a ≤ a' ∧ a' ≤ a + 20 ∧ goodRefB r c = true := by
  obtain ⟨x1, a1, s1, e1, g1, l1, p1, q1⟩ := pick_ok l hb a s 9 h0 (by omega)
  obtain ⟨x2, a2, s2, e2, g2, l2, p2, q2⟩ := pick_ok l hb a1 s1 9 (by omega) (by omega)
  obtain ⟨o3, a3, s3, e3, g3, l3⟩ := one_ok l hb a2 s2 3 (by omega) (by omega)
  obtain ⟨o4, a4, s4, e4, g4, l4⟩ := one_ok l hb a3 s3 3 (by omega) (by omega)
  obtain ⟨x5, a5, s5, e5, g5, l5, p5, q5⟩ := pick_ok l hb a4 s4 9 (by omega) (by omega)
  have q1 := q1 (by omega); have q2 := q2 (by omega)
  unfold spec_l1Cur_ref.f
  rw [e1]; simp only [Option.bind_some]; rw [e2]; simp only [Option.bind_some]; rw [e3]; simp only [Option.bind_some]; rw [e4]; simp only [Option.bind_some]; rw [e5]; simp only [Option.bind_some]
  by_cases c0 : x5 = 0
  · obtain ⟨x6, a6, s6, e6, g6, l6, p6, q6⟩ := pick_ok l hb a5 s5 1000 (by omega) (by omega)
    obtain ⟨x7, a7, s7, e7, g7, l7, p7, q7⟩ := pick_ok l hb a6 s6 200 (by omega) (by omega)
    have q6 := q6 (by omega); have q7 := q7 (by omega)
    rw [if_pos c0, e6]; simp only [Option.bind_some]; rw [e7]; simp only [Option.bind_some]
    rw [wrap_id (x := 1 + x6) (by omega) (by omega), wrap_id (x := 1 + x7) (by omega) (by omega)]
    exact ⟨_, _, _, _, a7, s7, rfl, by omega, by omega, decide_eq_true (by omega)⟩
  · by_cases c1 : x5 = 1
    · obtain ⟨x6, a6, s6, e6, g6, l6, p6, q6⟩ := pick_ok l hb a5 s5 2 (by omega) (by omega)
      obtain ⟨x7, a7, s7, e7, g7, l7, p7, q7⟩ := pick_ok l hb a6 s6 2 (by omega) (by omega)
      have q6 := q6 (by omega); have q7 := q7 (by omega)
      rw [if_neg c0, if_pos c1, e6]; simp only [Option.bind_some]; rw [e7]; simp only [Option.bind_some]
      rw [wrap_id (x := 1000 - x6) (by omega) (by omega), wrap_id (x := 200 - x7) (by omega) (by omega)]
      exact ⟨_, _, _, _, a7, s7, rfl, by omega, by omega, decide_eq_true (by omega)⟩
    · rw [if_neg c0, if_neg c1]
      rw [wrap_id (x := 1 + x1) (by omega) (by omega), wrap_id (x := 1 + x2) (by omega) (by omega)]
      exact ⟨_, _, _, _, a5, s5, rfl, by omega, by omega, decide_eq_true (by omega)⟩
theorem codd_ok (l : List Int) (hb : Bytes l) (a s : Int) (r c : Int) (p q : Bool) (h0 : 0 ≤ a) (h1 : a ≤ 4611686018427380000) : ∃ r' c' a' s', spec_l1Cur_oddRef.f l a s r c p q = some (r', c', p, q, a', s') ∧ a ≤ a' ∧ a' ≤ a + 20 := by
  obtain ⟨x1, a1, s1, e1, g1, l1, p1, q1⟩ := pick_ok l hb a s 30 h0 (by omega)
  obtain ⟨x2, a2, s2, e2, g2, l2, p2, q2⟩ := pick_ok l hb a1 s1 3 (by omega) (by omega)
  have q2 := q2 (by omega)
  unfold spec_l1Cur_oddRef.f
  rw [e1]; simp only [Option.bind_some]
  by_cases c0 : x1 = 0
  · rw [if_pos c0, e2]; simp only [Option.bind_some]; rw [if_pos p2, if_pos (by show x2 < 3; omega)]
    exact ⟨_, _, a2, s2, rfl, by omega, by omega⟩
  · by_cases c1 : x1 = 1
    · rw [if_neg c0, if_pos c1, e2]; simp only [Option.bind_some]; rw [if_pos p2, if_pos (by show x2 < 3; omega)]
      exact ⟨_, _, a2, s2, rfl, by omega, by omega⟩
    · rw [if_neg c0, if_neg c1]; exact ⟨_, _, a1, s1, rfl, by omega, by omega⟩
theorem carea_ok (l : List Int) (hb : Bytes l) (a s : Int) (h0 : 0 ≤ a) (h1 : a ≤ 4611686018427370000) : ∃ r c p q r2 c2 p2 q2 a' s', spec_l1Cur_area.f l a s = some (r, c, p, q, r2, c2, p2, q2, a', s') ∧ a ≤ a' ∧ a' ≤ a + 80 := by
  obtain ⟨r1, c1, p1, q1, a1, s1, e1, g1, l1, _⟩ := cref_ok l hb a s (by omega) (by omega)
  obtain ⟨r2, c2, a2, s2, e2, g2, l2⟩ := codd_ok l hb a1 s1 r1 c1 p1 q1 (by omega) (by omega)
  obtain ⟨r3, c3, p3, q3, a3, s3, e3, g3, l3, _⟩ := cref_ok l hb a2 s2 (by omega) (by omega)
  obtain ⟨r4, c4, a4, s4, e4, g4, l4⟩ := codd_ok l hb a3 s3 r3 c3 p3 q3 (by omega) (by omega)
  unfold spec_l1Cur_area.f
  rw [e1]; simp only [Option.bind_some]; rw [e2]; simp only [Option.bind_some]; rw [e3]; simp only [Option.bind_some]; rw [e4]; simp only [Option.bind_some]
  exact ⟨_, _, _, _, _, _, _, _, a4, s4, rfl, by omega, by omega⟩
theorem drawWo_ok (l : List Int) (hb : Bytes l) : ∃ r c p q r2 c2 p2 q2 s d e f s2 d2 e2 f2, spec_DrawWithout.f l = some (r, c, p, q, r2, c2, p2, q2, s, d, e, f, s2, d2, e2, f2) := by
  obtain ⟨r, c, p, q, r2, c2, p2, q2, a1, s1, e1, g1, l1⟩ := carea_ok l hb 0 0 (by omega) (by omega)
  obtain ⟨s, d, e, f, s2, d2, e2, f2, a2, t2, e2_, g2, l2⟩ := carea_ok l hb a1 s1 (by omega) (by omega)
  unfold spec_DrawWithout.f spec_l3Areas.f
  rw [e1]; simp only [Option.bind_some]; rw [e2_]; simp only [Option.bind_some]
  exact ⟨_, _, _, _, _, _, _, _, _, _, _, _, _, _, _, _, rfl⟩
/-! the cells of an area, and what lies apart -/
def cellsV (r c r2 c2 : Int) : Int := (max r r2 - min r r2 + 1) * (max c c2 - min c c2 + 1)
def cnt (x : S26) : Int := cellsV x.f0.f0 x.f0.f1 x.f1.f0 x.f1.f1
def lapV (r c r2 c2 s d s2 d2 : Int) : Bool := (meetV r c r2 c2 s d s2 d2).2.2.2.2.2.2.2.2
theorem mul_rng {x y : Int} (h1 : 1 ≤ x) (h2 : x ≤ 1000) (h3 : 1 ≤ y) (h4 : y ≤ 200) : 0 ≤ x * y ∧ x * y ≤ 200000 := by
  refine ⟨Int.mul_nonneg (by omega) (by omega), ?_⟩
  have := Int.mul_le_mul h2 h4 (by omega) (by omega)
  omega
theorem cells_rng {r c r2 c2 : Int} (h : goodAreaB r c r2 c2 = true) : 0 ≤ cellsV r c r2 c2 ∧ cellsV r c r2 c2 ≤ 200000 := by
  have g := goodB_rng h
  unfold cellsV
  exact mul_rng (by omega) (by omega) (by omega) (by omega)
theorem specCells_is {r c r2 c2 : Int} (a b a2 b2 : Bool) (h : goodAreaB r c r2 c2 = true) : spec_CellsIn.f r c a b r2 c2 a2 b2 = some (cellsV r c r2 c2) := by
  have g := goodB_rng h
  have m := cells_rng h
  obtain ⟨y1, y2, y3, y4, e⟩ := specNormal_is r c a b r2 c2 a2 b2
  unfold spec_CellsIn.f
  rw [e]; simp only [Option.bind_some]
  rw [wrap_id (x := max r r2 - min r r2) (by omega) (by omega), wrap_id (x := max r r2 - min r r2 + 1) (by omega) (by omega), wrap_id (x := max c c2 - min c c2) (by omega) (by omega), wrap_id (x := max c c2 - min c c2 + 1) (by omega) (by omega)]
  show some (wrap64 (cellsV r c r2 c2)) = _
  rw [wrap_id (by omega) (by omega)]
theorem lap_no {r c r2 c2 s d s2 d2 : Int} (h : ¬ (max (min r r2) (min s s2) ≤ min (max r r2) (max s s2) ∧ max (min c c2) (min d d2) ≤ min (max c c2) (max d d2))) : lapV r c r2 c2 s d s2 d2 = false := by
  unfold lapV meetV
  rw [decide_eq_false h, if_neg (by simp)]
/-- What the pieces of an area without another are: good areas, apart from that other and from each other, and their cells make up the rest. -/
def Parts (m : Int) (w : List S26) (r c r2 c2 s d s2 d2 : Int) : Prop :=
  (∀ x ∈ w, goodAreaB x.f0.f0 x.f0.f1 x.f1.f0 x.f1.f1 = true) ∧ (∀ x ∈ w, lapV x.f0.f0 x.f0.f1 x.f1.f0 x.f1.f1 s d s2 d2 = false) ∧
  w.Pairwise (fun y x => lapV x.f0.f0 x.f0.f1 x.f1.f0 x.f1.f1 y.f0.f0 y.f0.f1 y.f1.f0 y.f1.f1 = false) ∧ m + (w.map cnt).sum = cellsV r c r2 c2
theorem good_of {r c r2 c2 : Int} (h : 1 ≤ r ∧ r ≤ 1000 ∧ 1 ≤ c ∧ c ≤ 200 ∧ 1 ≤ r2 ∧ r2 ≤ 1000 ∧ 1 ≤ c2 ∧ c2 ≤ 200) : goodAreaB r c r2 c2 = true := by
  unfold goodAreaB goodRefB
  rw [decide_eq_true (by omega), decide_eq_true (by omega)]; rfl
theorem parts_apart {r c r2 c2 s d s2 d2 : Int} (h1 : goodAreaB r c r2 c2 = true) (h : ¬ (max (min r r2) (min s s2) ≤ min (max r r2) (max s s2) ∧ max (min c c2) (min d d2) ≤ min (max c c2) (max d d2))) :
    Parts 0 [areaV (min r r2) (min c c2) (max r r2) (max c c2)] r c r2 c2 s d s2 d2 := by
  have g := goodB_rng h1
  refine ⟨fun x hx => ?_, fun x hx => ?_, List.pairwise_singleton _ _, ?_⟩
  · obtain rfl := List.mem_singleton.mp hx
    exact good_of (by simp only [areaV]; omega)
  · obtain rfl := List.mem_singleton.mp hx
    exact lap_no (by simp only [areaV]; omega)
  · simp only [List.map_cons, List.map_nil, List.sum_cons, List.sum_nil, cnt, areaV, cellsV]
    rw [show max (min r r2) (max r r2) = max r r2 from by omega, show min (min r r2) (max r r2) = min r r2 from by omega, show max (min c c2) (max c c2) = max c c2 from by omega, show min (min c c2) (max c c2) = min c c2 from by omega]
    omega
/-- A piece that may be none. -/
theorem cell_if (p : Prop) [Decidable p] (pr pc pt pu : Int) (hp : p → pr ≤ pt ∧ pc ≤ pu) (hn : ¬ p → (pt - pr + 1) * (pu - pc + 1) = 0) : (((if p then [areaV pr pc pt pu] else []) : List S26).map cnt).sum = (pt - pr + 1) * (pu - pc + 1) := by
  by_cases h : p
  · have := hp h
    rw [if_pos h]
    simp only [List.map_cons, List.map_nil, List.sum_cons, List.sum_nil, cnt, areaV, cellsV]
    rw [show max pr pt = pt from by omega, show min pr pt = pr from by omega, show max pc pu = pu from by omega, show min pc pu = pc from by omega]
    omega
  · rw [if_neg h, hn h]; rfl
theorem mem_if {p : Prop} [Decidable p] {x y : S26} (h : x ∈ (if p then [y] else [])) : p ∧ x = y := by
  by_cases hp : p
  · rw [if_pos hp] at h; exact ⟨hp, List.mem_singleton.mp h⟩
  · rw [if_neg hp] at h; cases h
theorem pair_if {p : Prop} [Decidable p] (y : S26) (R : S26 → S26 → Prop) : ((if p then [y] else []) : List S26).Pairwise R := by
  by_cases hp : p
  · rw [if_pos hp]; exact List.pairwise_singleton _ _
  · rw [if_neg hp]; exact List.Pairwise.nil
theorem parts_sum (xr xc xt xu mr mc mt mu : Int) : (mt - mr + 1) * (mu - mc + 1) + ((mr - xr) * (xu - xc + 1) + (xt - mt) * (xu - xc + 1) + (mt - mr + 1) * (mc - xc) + (mt - mr + 1) * (xu - mu)) = (xt - xr + 1) * (xu - xc + 1) := by
  have e1 : (xt - xr + 1) * (xu - xc + 1) = (mr - xr) * (xu - xc + 1) + (xt - mt) * (xu - xc + 1) + (mt - mr + 1) * (xu - xc + 1) := by
    rw [← Int.add_mul, ← Int.add_mul]; congr 1; omega
  have e2 : (mt - mr + 1) * (xu - xc + 1) = (mt - mr + 1) * (mu - mc + 1) + (mt - mr + 1) * (mc - xc) + (mt - mr + 1) * (xu - mu) := by
    rw [← Int.mul_add, ← Int.mul_add]; congr 1; omega
  omega
theorem pieces_is (xr xc xt xu yr yc yt yu : Int) (g1 : 1 ≤ xr ∧ xr ≤ xt ∧ xt ≤ 1000 ∧ 1 ≤ xc ∧ xc ≤ xu ∧ xu ≤ 200) (g2 : 1 ≤ yr ∧ yr ≤ yt ∧ yt ≤ 1000 ∧ 1 ≤ yc ∧ yc ≤ yu ∧ yu ≤ 200) (hm : max xr yr ≤ min xt yt ∧ max xc yc ≤ min xu yu) :
    piecesV xr xc xt xu yr yc yt yu = (if xr < max xr yr then [areaV xr xc (max xr yr - 1) xu] else []) ++ (if xt > min xt yt then [areaV (min xt yt + 1) xc xt xu] else []) ++ (if xc < max xc yc then [areaV (max xr yr) xc (min xt yt) (max xc yc - 1)] else []) ++ (if xu > min xu yu then [areaV (max xr yr) (min xu yu + 1) (min xt yt) xu] else []) := by
  unfold piecesV
  simp only [mn_is, mx_is]
  rw [wrap_id (x := yr - 1) (by omega) (by omega), wrap_id (x := yt + 1) (by omega) (by omega), wrap_id (x := yc - 1) (by omega) (by omega), wrap_id (x := yu + 1) (by omega) (by omega)]
  rw [piece_if (xr < max xr yr) xr xc (min xt (yr - 1)) xu (by omega), piece_if (xt > min xt yt) (max xr (yt + 1)) xc xt xu (by omega), piece_if (xc < max xc yc) (max xr yr) xc (min xt yt) (min xu (yc - 1)) (by omega), piece_if (xu > min xu yu) (max xr yr) (max xc (yu + 1)) (min xt yt) xu (by omega)]
  rw [if_area (xr < max xr yr) (areaV xr xc (min xt (yr - 1)) xu) (areaV xr xc (max xr yr - 1) xu) (fun h => by congr 1; omega), if_area (xt > min xt yt) (areaV (max xr (yt + 1)) xc xt xu) (areaV (min xt yt + 1) xc xt xu) (fun h => by congr 1; omega), if_area (xc < max xc yc) (areaV (max xr yr) xc (min xt yt) (min xu (yc - 1))) (areaV (max xr yr) xc (min xt yt) (max xc yc - 1)) (fun h => by congr 1; omega), if_area (xu > min xu yu) (areaV (max xr yr) (max xc (yu + 1)) (min xt yt) xu) (areaV (max xr yr) (min xu yu + 1) (min xt yt) xu) (fun h => by congr 1; omega)]
theorem parts_meet {r c r2 c2 s d s2 d2 : Int} (h1 : goodAreaB r c r2 c2 = true) (h2 : goodAreaB s d s2 d2 = true) (hm : max (min r r2) (min s s2) ≤ min (max r r2) (max s s2) ∧ max (min c c2) (min d d2) ≤ min (max c c2) (max d d2)) :
    Parts (cellsV (max (min r r2) (min s s2)) (max (min c c2) (min d d2)) (min (max r r2) (max s s2)) (min (max c c2) (max d d2))) (piecesV (min r r2) (min c c2) (max r r2) (max c c2) (min s s2) (min d d2) (max s s2) (max d d2)) r c r2 c2 s d s2 d2 := by
  have g1 := goodB_rng h1; have g2 := goodB_rng h2
  rw [pieces_is _ _ _ _ _ _ _ _ (by omega) (by omega) hm]
  have ex : cellsV r c r2 c2 = (max r r2 - min r r2 + 1) * (max c c2 - min c c2 + 1) := rfl
  have x1 : 1 ≤ min r r2 ∧ min r r2 ≤ max r r2 ∧ max r r2 ≤ 1000 ∧ 1 ≤ min c c2 ∧ min c c2 ≤ max c c2 ∧ max c c2 ≤ 200 := by omega
  have y1 : 1 ≤ min s s2 ∧ min s s2 ≤ max s s2 ∧ max s s2 ≤ 1000 ∧ 1 ≤ min d d2 ∧ min d d2 ≤ max d d2 ∧ max d d2 ≤ 200 := by omega
  unfold Parts
  rw [ex]
  have nolap : ∀ {pr pc pt pu : Int}, (¬ (max (min pr pt) (min s s2) ≤ min (max pr pt) (max s s2) ∧ max (min pc pu) (min d d2) ≤ min (max pc pu) (max d d2))) → lapV pr pc pt pu s d s2 d2 = false := fun h => lap_no h
  generalize min r r2 = xr at *; generalize min c c2 = xc at *; generalize max r r2 = xt at *; generalize max c c2 = xu at *
  generalize min s s2 = yr at *; generalize min d d2 = yc at *; generalize max s s2 = yt at *; generalize max d d2 = yu at *
  have m1 : xr ≤ max xr yr ∧ (xr < max xr yr → max xr yr = yr) ∧ min xt yt ≤ xt ∧ (xt > min xt yt → min xt yt = yt) ∧ xc ≤ max xc yc ∧ (xc < max xc yc → max xc yc = yc) ∧ min xu yu ≤ xu ∧ (xu > min xu yu → min xu yu = yu) := by omega
  generalize max xr yr = mr at *; generalize min xt yt = mt at *; generalize max xc yc = mc at *; generalize min xu yu = mu at *
  refine ⟨fun x hx => ?_, fun x hx => ?_, ?_, ?_⟩
  · simp only [List.mem_append] at hx
    rcases hx with ((hx | hx) | hx) | hx <;> obtain ⟨hp, rfl⟩ := mem_if hx <;> exact good_of (by simp only [areaV]; omega)
  · simp only [List.mem_append] at hx
    rcases hx with ((hx | hx) | hx) | hx <;> obtain ⟨hp, rfl⟩ := mem_if hx <;> exact nolap (by simp only [areaV]; omega)
  · refine List.pairwise_append.mpr ⟨List.pairwise_append.mpr ⟨List.pairwise_append.mpr ⟨pair_if _ _, pair_if _ _, ?_⟩, pair_if _ _, ?_⟩, pair_if _ _, ?_⟩
    · intro y hy x hx
      obtain ⟨hq, rfl⟩ := mem_if hx
      obtain ⟨hp, rfl⟩ := mem_if hy
      exact lap_no (by simp only [areaV]; omega)
    · intro y hy x hx
      obtain ⟨hq, rfl⟩ := mem_if hx
      simp only [List.mem_append] at hy
      rcases hy with hy | hy <;> obtain ⟨hp, rfl⟩ := mem_if hy <;> exact lap_no (by simp only [areaV]; omega)
    · intro y hy x hx
      obtain ⟨hq, rfl⟩ := mem_if hx
      simp only [List.mem_append] at hy
      rcases hy with (hy | hy) | hy <;> obtain ⟨hp, rfl⟩ := mem_if hy <;> exact lap_no (by simp only [areaV]; omega)
  · rw [List.map_append, List.map_append, List.map_append, List.sum_append, List.sum_append, List.sum_append]
    rw [cell_if (xr < mr) xr xc (mr - 1) xu (by omega) (fun h => by rw [show mr - 1 - xr + 1 = 0 from by omega, Int.zero_mul]), cell_if (xt > mt) (mt + 1) xc xt xu (by omega) (fun h => by rw [show xt - (mt + 1) + 1 = 0 from by omega, Int.zero_mul]),
      cell_if (xc < mc) mr xc mt (mc - 1) (by omega) (fun h => by rw [show mc - 1 - xc + 1 = 0 from by omega, Int.mul_zero]), cell_if (xu > mu) mr (mu + 1) mt xu (by omega) (fun h => by rw [show xu - (mu + 1) + 1 = 0 from by omega, Int.mul_zero])]
    have e := parts_sum xr xc xt xu mr mc mt mu
    unfold cellsV
    rw [show max mr mt = mt from by omega, show min mr mt = mr from by omega, show max mc mu = mu from by omega, show min mc mu = mc from by omega, show mr - 1 - xr + 1 = mr - xr from by omega, show xt - (mt + 1) + 1 = xt - mt from by omega, show mc - 1 - xc + 1 = mc - xc from by omega, show xu - (mu + 1) + 1 = xu - mu from by omega]
    omega
/-- The pieces' law, whether the two meet or not. -/
theorem parts_ok {r c r2 c2 s d s2 d2 : Int} (h1 : goodAreaB r c r2 c2 = true) (h2 : goodAreaB s d s2 d2 = true) :
    Parts (if lapV r c r2 c2 s d s2 d2 = true then cellsV (meetV r c r2 c2 s d s2 d2).1 (meetV r c r2 c2 s d s2 d2).2.1 (meetV r c r2 c2 s d s2 d2).2.2.2.2.1 (meetV r c r2 c2 s d s2 d2).2.2.2.2.2.1 else 0) (withoutV r c r2 c2 s d s2 d2) r c r2 c2 s d s2 d2 := by
  unfold lapV meetV withoutV
  rw [h1, h2]
  by_cases h : max (min r r2) (min s s2) ≤ min (max r r2) (max s s2) ∧ max (min c c2) (min d d2) ≤ min (max c c2) (max d d2)
  · rw [decide_eq_true h, if_pos (show (true && true && true) = true from rfl), if_pos (show (true && true) = true from rfl), if_pos h]
    exact parts_meet h1 h2 h
  · rw [decide_eq_false h, if_neg (show ¬ (true && true && false) = true by simp), if_pos (show (true && true) = true from rfl), if_neg h]
    exact parts_apart h1 h
/-! the law's loops -/
theorem ev1 {α : Type} {f : Nat → Option α} {v : α} (h : ∀ k, f (k + 1) = some v) : Ev f v := ⟨1, fun k hk => by obtain ⟨j, rfl⟩ : ∃ j, k = j + 1 := ⟨k - 1, by omega⟩; exact h j⟩
theorem ev4 {α : Type} {f : Nat → Option α} {v : α} (h : ∀ k, f (k + 4) = some v) : Ev f v := ⟨4, fun k hk => by obtain ⟨j, rfl⟩ : ∃ j, k = j + 4 := ⟨k - 4, by omega⟩; exact h j⟩
theorem zAreas_ev (w : List S26) (hl : w.length ≤ 4) : Ev (fun k => laws_zAreas.f k w w) true := by
  have h : Ev (fun k => laws_zAreas.l0 k w w (w.length : Int) 0) true := by
    refine ev_down (F := fun k i => laws_zAreas.l0 k w w (w.length : Int) i) w.length (fun i hi h => ?_) ?_
    · refine Ev.step (fun k => ?_) h
      simp only [laws_zAreas.l0]
      rw [if_pos (by omega), if_pos (by omega), if_pos (by omega), if_pos (by omega), if_neg (by simp), wrap_id (x := (i : Int) + 1) (by omega) (by omega)]; rfl
    · refine Ev.step (f := fun _ => some true) (fun k => ?_) (Ev.now _)
      simp only [laws_zAreas.l0]
      rw [if_neg (by omega)]
  refine Ev.congr (fun k => ?_) h
  unfold laws_zAreas.f; rw [if_pos rfl]
theorem rdA (w : List S26) (i : Nat) (h : i < w.length) : rd_T26 w (i : Int) = w[i] := by unfold rd_T26; exact getD_at w _ i h
theorem sum_rng : ∀ (l : List S26), (∀ x ∈ l, 0 ≤ cnt x ∧ cnt x ≤ 200000) → 0 ≤ (l.map cnt).sum ∧ (l.map cnt).sum ≤ 200000 * (l.length : Int)
  | [], _ => by simp
  | x :: l, h => by
    have h1 := h x (by simp)
    have h2 := sum_rng l (fun y hy => h y (by simp [hy]))
    simp only [List.map_cons, List.sum_cons, List.length_cons]
    omega
theorem take_one (w : List S26) (i : Nat) (h : i < w.length) : w.take (i + 1) = w.take i ++ [w[i]] := by
  rw [List.take_add_one, List.getElem?_eq_getElem h]; rfl
theorem hull_is {r c r2 c2 s d s2 d2 : Int} (h1 : goodAreaB r c r2 c2 = true) (h2 : goodAreaB s d s2 d2 = true) : hullV r c r2 c2 s d s2 d2 = (min (min r r2) (min s s2), min (min c c2) (min d d2), false, false, max (max r r2) (max s s2), max (max c c2) (max d d2), false, false) := by
  unfold hullV; rw [h1, h2]; rfl
theorem meet_in {hr hc ht hu r c r2 c2 : Int} (h0 : goodAreaB hr hc ht hu = true) (h1 : goodAreaB r c r2 c2 = true) (i1 : hr ≤ min r r2) (i2 : hc ≤ min c c2) (i3 : max r r2 ≤ ht) (i4 : max c c2 ≤ hu) :
    meetV hr hc ht hu r c r2 c2 = (min r r2, min c c2, false, false, max r r2, max c c2, false, false, true) := by
  unfold meetV
  rw [h0, h1, decide_eq_true (by omega), if_pos (show (true && true && true) = true from rfl)]
  rw [show max (min hr ht) (min r r2) = min r r2 from by omega, show max (min hc hu) (min c c2) = min c c2 from by omega, show min (max hr ht) (max r r2) = max r r2 from by omega, show min (max hc hu) (max c c2) = max c c2 from by omega]
theorem hull_self {r c r2 c2 : Int} (h1 : goodAreaB r c r2 c2 = true) : hullV r c r2 c2 r c r2 c2 = (min r r2, min c c2, false, false, max r r2, max c c2, false, false) := by
  rw [hull_is h1 h1]
  rw [show min (min r r2) (min r r2) = min r r2 from by omega, show min (min c c2) (min c c2) = min c c2 from by omega, show max (max r r2) (max r r2) = max r r2 from by omega, show max (max c c2) (max c c2) = max c c2 from by omega]
theorem pieces_loop (w : List S26) (hl : w.length ≤ 4) (m : Int) (hm : 0 ≤ m ∧ m ≤ 200000) {r c r2 c2 s d s2 d2 : Int} (p q p2 q2 e f e2 f2 : Bool) (h1 : goodAreaB r c r2 c2 = true) (h2 : goodAreaB s d s2 d2 = true) (P : Parts m w r c r2 c2 s d s2 d2) :
    Ev (fun k => laws_FnAreas.j1 k w m r c p q r2 c2 p2 q2 s d e f s2 d2 e2 f2) true := by
  obtain ⟨P1, P2, P3, P4⟩ := P
  have hc : ∀ x ∈ w, 0 ≤ cnt x ∧ cnt x ≤ 200000 := fun x hx => cells_rng (P1 x hx)
  have hr : ∀ i : Nat, 0 ≤ ((w.take i).map cnt).sum ∧ ((w.take i).map cnt).sum ≤ 800000 := fun i => by
    have := sum_rng (w.take i) (fun x hx => hc x (List.mem_of_mem_take hx))
    have hlt : (w.take i).length ≤ 4 := by rw [List.length_take]; omega
    omega
  have key : Ev (fun k => laws_FnAreas.l0 k w (m + ((w.take (0 : Int).toNat).map cnt).sum) w (w.length : Int) 0 r c p q r2 c2 p2 q2 s d e f s2 d2 e2 f2) true := by
    refine ev_down (F := fun k i => laws_FnAreas.l0 k w (m + ((w.take i.toNat).map cnt).sum) w (w.length : Int) i r c p q r2 c2 p2 q2 s d e f s2 d2 e2 f2) w.length (fun i hi ih => ?_) ?_
    · simp only [Int.toNat_natCast] at ih ⊢
      have hx := List.getElem_mem hi
      generalize hxe : w[i] = x at hx
      have hin : Ev (fun k => laws_FnAreas.l1 k w (m + ((w.take (i + 1)).map cnt).sum) w (w.length : Int) (i : Int) (w.take i) ((w.take i).length : Int) 0 r c p q r2 c2 p2 q2 s d e f s2 d2 e2 f2 x.f0.f0 x.f0.f1 x.f0.f2 x.f0.f3 x.f1.f0 x.f1.f1 x.f1.f2 x.f1.f3) true := by
        refine ev_down (F := fun k j => laws_FnAreas.l1 k w (m + ((w.take (i + 1)).map cnt).sum) w (w.length : Int) (i : Int) (w.take i) ((w.take i).length : Int) j r c p q r2 c2 p2 q2 s d e f s2 d2 e2 f2 x.f0.f0 x.f0.f1 x.f0.f2 x.f0.f3 x.f1.f0 x.f1.f1 x.f1.f2 x.f1.f3) (w.take i).length (fun j hj jh => ?_) ?_
        · have hji : j < i := by rw [List.length_take] at hj; omega
          have hy : (w.take i)[j] = w[j] := List.getElem_take
          have hno : lapV x.f0.f0 x.f0.f1 x.f1.f0 x.f1.f1 w[j].f0.f0 w[j].f0.f1 w[j].f1.f0 w[j].f1.f1 = false := by
            rw [← hxe]; exact List.pairwise_iff_getElem.mp P3 j i (by omega) hi hji
          have hM : Ev (fun k => spec_Meet.f k x.f0.f0 x.f0.f1 x.f0.f2 x.f0.f3 x.f1.f0 x.f1.f1 x.f1.f2 x.f1.f3 w[j].f0.f0 w[j].f0.f1 w[j].f0.f2 w[j].f0.f3 w[j].f1.f0 w[j].f1.f1 w[j].f1.f2 w[j].f1.f3) (meetV x.f0.f0 x.f0.f1 x.f1.f0 x.f1.f1 w[j].f0.f0 w[j].f0.f1 w[j].f1.f0 w[j].f1.f1) := ev1 (fun k => specMeet_is k _ _ _ _ _ _ _ _ _ _ _ _ _ _ _ _)
          refine Ev.step (fun k => ?_) (Ev.bind hM (f := fun k bt => if bt.2.2.2.2.2.2.2.2 = true then some false else laws_FnAreas.l1 k w (m + ((w.take (i + 1)).map cnt).sum) w (w.length : Int) (i : Int) (w.take i) ((w.take i).length : Int) ((j + 1 : Nat) : Int) r c p q r2 c2 p2 q2 s d e f s2 d2 e2 f2 x.f0.f0 x.f0.f1 x.f0.f2 x.f0.f3 x.f1.f0 x.f1.f1 x.f1.f2 x.f1.f3) (Ev.congr (fun k => ?_) jh))
          · rw [laws_FnAreas.l1, if_pos (by omega), if_pos (by omega), if_pos (by omega), rdA _ j hj, hy, wrap_id (x := (j : Int) + 1) (by omega) (by omega)]; rfl
          · exact if_neg (by rw [show (meetV x.f0.f0 x.f0.f1 x.f1.f0 x.f1.f1 w[j].f0.f0 w[j].f0.f1 w[j].f1.f0 w[j].f1.f1).2.2.2.2.2.2.2.2 = false from hno]; simp)
        · refine Ev.step (fun k => ?_) ih
          rw [laws_FnAreas.l1, if_neg (by omega), wrap_id (x := (i : Int) + 1) (by omega) (by omega)]; rfl
      have hno : lapV x.f0.f0 x.f0.f1 x.f1.f0 x.f1.f1 s d s2 d2 = false := P2 x hx
      have hM : Ev (fun k => spec_Meet.f k x.f0.f0 x.f0.f1 x.f0.f2 x.f0.f3 x.f1.f0 x.f1.f1 x.f1.f2 x.f1.f3 s d e f s2 d2 e2 f2) (meetV x.f0.f0 x.f0.f1 x.f1.f0 x.f1.f1 s d s2 d2) := ev1 (fun k => specMeet_is k _ _ _ _ _ _ _ _ _ _ _ _ _ _ _ _)
      refine Ev.step (fun k => ?_) (Ev.bind hM (f := fun k bt => if bt.2.2.2.2.2.2.2.2 = true then some false else laws_FnAreas.l1 k w (m + ((w.take (i + 1)).map cnt).sum) w (w.length : Int) (i : Int) (w.take i) ((w.take i).length : Int) 0 r c p q r2 c2 p2 q2 s d e f s2 d2 e2 f2 x.f0.f0 x.f0.f1 x.f0.f2 x.f0.f3 x.f1.f0 x.f1.f1 x.f1.f2 x.f1.f3) (Ev.congr (fun k => ?_) hin))
      · have hs : wrap64 (m + ((w.take i).map cnt).sum + cellsV x.f0.f0 x.f0.f1 x.f1.f0 x.f1.f1) = m + ((w.take (i + 1)).map cnt).sum := by
          have ht : ((w.take (i + 1)).map cnt).sum = ((w.take i).map cnt).sum + cellsV x.f0.f0 x.f0.f1 x.f1.f0 x.f1.f1 := by
            rw [take_one w i hi, hxe, List.map_append, List.sum_append]; simp [cnt]
          have := hr i; have := hc x hx
          have h9 : cnt x = cellsV x.f0.f0 x.f0.f1 x.f1.f0 x.f1.f1 := rfl
          rw [wrap_id (by omega) (by omega)]; omega
        rw [laws_FnAreas.l0, if_pos (by omega), if_pos (by omega), if_pos (by omega), rdA _ i hi, hxe, specCells_is _ _ _ _ (P1 x hx)]
        simp only [Option.bind_some]
        rw [hs]
        refine congrArg _ (funext fun bt => ?_)
        by_cases hb : bt.2.2.2.2.2.2.2.2 = true
        · rw [if_pos hb, if_pos hb]
        · rw [if_neg hb, if_neg hb, if_pos (by omega), Int.toNat_natCast]
      · exact if_neg (by rw [show (meetV x.f0.f0 x.f0.f1 x.f1.f0 x.f1.f1 s d s2 d2).2.2.2.2.2.2.2.2 = false from hno]; simp)
    · simp only [Int.toNat_natCast, List.take_length]
      rw [P4]
      have g1 := goodB_rng h1; have g2 := goodB_rng h2
      have gh : goodAreaB (min (min r r2) (min s s2)) (min (min c c2) (min d d2)) (max (max r r2) (max s s2)) (max (max c c2) (max d d2)) = true := good_of (by omega)
      have hH : Ev (fun k => impl_Hull.f k r c p q r2 c2 p2 q2 s d e f s2 d2 e2 f2) (min (min r r2) (min s s2), min (min c c2) (min d d2), false, false, max (max r r2) (max s s2), max (max c c2) (max d d2), false, false) := ev1 (fun k => by rw [implHull_is, hull_is h1 h2])
      have hA : Ev (fun k => impl_Meet.f k (min (min r r2) (min s s2)) (min (min c c2) (min d d2)) false false (max (max r r2) (max s s2)) (max (max c c2) (max d d2)) false false r c p q r2 c2 p2 q2) (min r r2, min c c2, false, false, max r r2, max c c2, false, false, true) := ev1 (fun k => by rw [implMeet_is, meet_in gh h1 (by omega) (by omega) (by omega) (by omega)])
      have hB : Ev (fun k => impl_Meet.f k (min (min r r2) (min s s2)) (min (min c c2) (min d d2)) false false (max (max r r2) (max s s2)) (max (max c c2) (max d d2)) false false s d e f s2 d2 e2 f2) (min s s2, min d d2, false, false, max s s2, max d d2, false, false, true) := ev1 (fun k => by rw [implMeet_is, meet_in gh h2 (by omega) (by omega) (by omega) (by omega)])
      have hC : Ev (fun _ => spec_CellsIn.f r c p q r2 c2 p2 q2) (cellsV r c r2 c2) := ⟨0, fun _ _ => specCells_is _ _ _ _ h1⟩
      have hHa : Ev (fun k => spec_Hull.f k r c p q r2 c2 p2 q2 r c p q r2 c2 p2 q2) (min r r2, min c c2, false, false, max r r2, max c c2, false, false) := ev1 (fun k => by rw [specHull_is, hull_self h1])
      have hHb : Ev (fun k => spec_Hull.f k s d e f s2 d2 e2 f2 s d e f s2 d2 e2 f2) (min s s2, min d d2, false, false, max s s2, max d d2, false, false) := ev1 (fun k => by rw [specHull_is, hull_self h2])
      refine Ev.step (fun k => by rw [laws_FnAreas.l0, if_neg (by omega)]) (Ev.bind hH (Ev.bind hA (Ev.bind hB (Ev.bind hC ?_))))
      simp only [if_true, eq_self]
      refine Ev.bind hHa ?_
      simp only [beq_self_eq_true, Bool.and_self, if_true, eq_self]
      refine Ev.bind hHb ?_
      simp only [beq_self_eq_true, Bool.and_self]
      exact Ev.now _
  refine Ev.step (fun k => ?_) key
  rw [laws_FnAreas.j1]
  simp
theorem bad_ev {r c r2 c2 s d s2 d2 : Int} (p q p2 q2 e f e2 f2 : Bool) (x0 x1 : Int) (x2 x3 : Bool) (x4 x5 : Int) (x6 x7 : Bool) (h : (goodAreaB r c r2 c2 && goodAreaB s d s2 d2) = false) :
    Ev (fun k => laws_FnAreas.j0 k (meetV r c r2 c2 s d s2 d2).2.2.2.2.2.2.2.2 (withoutV r c r2 c2 s d s2 d2) true r c p q r2 c2 p2 q2 s d e f s2 d2 e2 f2 x0 x1 x2 x3 x4 x5 x6 x7) true := by
  have em : (meetV r c r2 c2 s d s2 d2).2.2.2.2.2.2.2.2 = false := by unfold meetV; rw [h]; rfl
  have ew : withoutV r c r2 c2 s d s2 d2 = [] := by unfold withoutV; rw [h]; rfl
  have hH : Ev (fun k => impl_Hull.f k r c p q r2 c2 p2 q2 s d e f s2 d2 e2 f2) (0, 0, false, false, 0, 0, false, false) := ev1 (fun k => by rw [implHull_is]; unfold hullV; rw [h]; rfl)
  rw [em, ew]
  refine Ev.step (fun k => by rw [laws_FnAreas.j0, if_pos rfl, if_neg (by simp), if_pos (by simp)]) (Ev.bind hH ?_)
  simp only [beq_self_eq_true, Bool.not_false, Bool.and_self]
  exact Ev.now _
theorem good_ev {r c r2 c2 s d s2 d2 : Int} (p q p2 q2 e f e2 f2 : Bool) (h1 : goodAreaB r c r2 c2 = true) (h2 : goodAreaB s d s2 d2 = true) :
    Ev (fun k => laws_FnAreas.j0 k (meetV r c r2 c2 s d s2 d2).2.2.2.2.2.2.2.2 (withoutV r c r2 c2 s d s2 d2) false r c p q r2 c2 p2 q2 s d e f s2 d2 e2 f2 (meetV r c r2 c2 s d s2 d2).1 (meetV r c r2 c2 s d s2 d2).2.1 (meetV r c r2 c2 s d s2 d2).2.2.1 (meetV r c r2 c2 s d s2 d2).2.2.2.1 (meetV r c r2 c2 s d s2 d2).2.2.2.2.1 (meetV r c r2 c2 s d s2 d2).2.2.2.2.2.1 (meetV r c r2 c2 s d s2 d2).2.2.2.2.2.2.1 (meetV r c r2 c2 s d s2 d2).2.2.2.2.2.2.2.1) true := by
  have hp := parts_ok h1 h2
  have hl := withoutV_len r c r2 c2 s d s2 d2
  by_cases hf : lapV r c r2 c2 s d s2 d2 = true
  · rw [if_pos hf] at hp
    have gm : goodAreaB (meetV r c r2 c2 s d s2 d2).1 (meetV r c r2 c2 s d s2 d2).2.1 (meetV r c r2 c2 s d s2 d2).2.2.2.2.1 (meetV r c r2 c2 s d s2 d2).2.2.2.2.2.1 = true := by
      have g1 := goodB_rng h1; have g2 := goodB_rng h2
      unfold lapV at hf
      unfold meetV at hf ⊢
      rw [h1, h2] at hf ⊢
      by_cases hx : max (min r r2) (min s s2) ≤ min (max r r2) (max s s2) ∧ max (min c c2) (min d d2) ≤ min (max c c2) (max d d2)
      · rw [decide_eq_true hx, if_pos (show (true && true && true) = true from rfl)]
        exact good_of (by simp only []; omega)
      · rw [decide_eq_false hx, if_neg (by simp)] at hf; cases hf
    have hc := cells_rng gm
    have hC := specCells_is (meetV r c r2 c2 s d s2 d2).2.2.1 (meetV r c r2 c2 s d s2 d2).2.2.2.1 (meetV r c r2 c2 s d s2 d2).2.2.2.2.2.2.1 (meetV r c r2 c2 s d s2 d2).2.2.2.2.2.2.2.1 gm
    refine Ev.step (fun k => ?_) (pieces_loop _ hl _ hc p q p2 q2 e f e2 f2 h1 h2 hp)
    have hf2 : (meetV r c r2 c2 s d s2 d2).2.2.2.2.2.2.2.2 = true := hf
    rw [laws_FnAreas.j0, if_neg (by simp), if_pos hf2, hC, Option.bind_some]
  · rw [if_neg hf] at hp
    refine Ev.step (fun k => ?_) (pieces_loop _ hl 0 (by omega) p q p2 q2 e f e2 f2 h1 h2 hp)
    have hf2 : ¬ (meetV r c r2 c2 s d s2 d2).2.2.2.2.2.2.2.2 = true := hf
    rw [laws_FnAreas.j0, if_neg (by simp), if_neg hf2]
theorem FnAreas : ∀ (l0 : (List Int)), QL (QI .u8) l0 → ∃ k, laws_FnAreas.f k l0 = some true := by
  intro l0 hl
  refine Ev.rounds ?_
  unfold laws_FnAreas.f
  by_cases hlen : (l0.length : Int) > 1048576
  · exact Ev.congr (f := fun _ => some true) (fun k => by rw [if_pos hlen]) (Ev.now _)
  obtain ⟨r, c, p, q, r2, c2, p2, q2, s, d, e, f, s2, d2, e2, f2, hd⟩ := drawWo_ok l0 (bytes_of (fun x hx => hl.2 x hx))
  simp only [if_neg hlen, hd, implWithout_is, specGoodArea_is, Option.bind_some]
  have hM : Ev (fun k => impl_Meet.f k r c p q r2 c2 p2 q2 s d e f s2 d2 e2 f2) (meetV r c r2 c2 s d s2 d2) := ev1 (fun k => implMeet_is k _ _ _ _ _ _ _ _ _ _ _ _ _ _ _ _)
  have hW : Ev (fun k => spec_Without.f k r c p q r2 c2 p2 q2 s d e f s2 d2 e2 f2) (withoutV r c r2 c2 s d s2 d2) := ev4 (fun k => specWithout_is k _ _ _ _ _ _ _ _ _ _ _ _ _ _ _ _)
  have hZ := zAreas_ev (withoutV r c r2 c2 s d s2 d2) (withoutV_len r c r2 c2 s d s2 d2)
  refine Ev.bind hM (Ev.bind hW (Ev.bind hZ ?_))
  cases h1 : goodAreaB r c r2 c2
  · simp only [if_true, Bool.false_eq_true, if_false]
    exact bad_ev p q p2 q2 e f e2 f2 _ _ _ _ _ _ _ _ (by rw [h1]; rfl)
  · cases h2 : goodAreaB s d s2 d2
    · simp only [if_true, Bool.not_false]
      exact bad_ev p q p2 q2 e f e2 f2 _ _ _ _ _ _ _ _ (by rw [h1, h2]; rfl)
    · simp only [if_true, Bool.not_true]
      exact good_ev p q p2 q2 e f e2 f2 h1 h2

end Go.Proofs.Ytjjignjjnnmajaa.Pure
