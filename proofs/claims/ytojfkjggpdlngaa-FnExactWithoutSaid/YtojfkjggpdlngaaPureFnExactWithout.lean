/- The plain law of FnExactWithout: what the program computes is what the reference computes, for every input (no further condition). -/
import Derived.Test.YtojfkjggpdlngaaMFnExactWithouta10
namespace Go.Proofs.Ytojfkjggpdlngaa.Pure
open Go.RowKit Go.Proofs.Ytojfkjggpdlngaa.PFnExactWithout Go.Proofs.YtojfkjggpdlngaaW.PrintWords Go.Proofs.YtojfkjggpdlngaaW.PrintLast

set_option linter.unusedVariables false
set_option linter.unusedSimpArgs false
/-! plain facts on whole numbers -/
theorem wrap_id {x : Int} (h1 : -9223372036854775808 ≤ x) (h2 : x ≤ 9223372036854775807) : wrap64 x = x := by
  unfold wrap64; omega
theorem td_pos {a b : Int} (h : 0 ≤ a) : a.tdiv b = a / b := Int.tdiv_eq_ediv_of_nonneg h
theorem td_neg {a b : Int} (h : a ≤ 0) : a.tdiv b = -((-a) / b) := by
  rw [← Int.tdiv_eq_ediv_of_nonneg (by omega : 0 ≤ -a), Int.neg_tdiv]; omega
theorem tm_pos {a b : Int} (h : 0 ≤ a) : a.tmod b = a % b := Int.tmod_eq_emod_of_nonneg h
theorem tm_neg {a b : Int} (h : a ≤ 0) : a.tmod b = -((-a) % b) := by
  rw [← Int.tmod_eq_emod_of_nonneg (by omega : 0 ≤ -a), Int.neg_tmod]; omega
theorem tm_zero (a b : Int) : a.tmod b = 0 ↔ a % b = 0 := by
  rw [← Int.dvd_iff_tmod_eq_zero, ← Int.dvd_iff_emod_eq_zero]
theorem ediv_is {a b q r : Int} (hb : 0 < b) (h : a = b * q + r) (h0 : 0 ≤ r) (h1 : r < b) : a / b = q := by
  rw [h, Int.add_comm, Int.add_mul_ediv_left _ _ (by omega), Int.ediv_eq_zero_of_lt h0 h1]; omega
theorem ediv_neg_of {a b : Int} (hb : 0 < b) (h : a.tmod b = 0) : a.tdiv b = a / b := by
  have e := Int.mul_tdiv_add_tmod a b
  rw [h] at e
  exact (ediv_is hb (q := a.tdiv b) (r := 0) (by omega) (by omega) hb).symm
theorem ediv_floor {a b : Int} (hb : 0 < b) (ha : a < 0) (h : a.tmod b ≠ 0) : a.tdiv b - 1 = a / b := by
  have e := Int.mul_tdiv_add_tmod a b
  have hm := tm_neg (a := a) (b := b) (by omega)
  have h0 := Int.emod_nonneg (-a) (by omega : b ≠ 0)
  have h1 := Int.emod_lt_of_pos (-a) hb
  refine (ediv_is hb (q := a.tdiv b - 1) (r := a.tmod b + b) ?_ (by omega) (by omega)).symm
  rw [Int.mul_sub]; omega
/-- The floor, as both programs reckon it. -/
theorem floor_is {a b : Int} (hb : 0 < b) (h1 : -4611686018427387904 ≤ a) (h2 : a ≤ 4611686018427387904) :
    (if b = 0 then (none) else (if (Int.tmod a b) = 0 then (some (wrap64 (Int.tdiv a b))) else (if ((decide (a < 0)) != (decide (b < 0))) = true then (some (wrap64 ((wrap64 (Int.tdiv a b)) - 1))) else (some (wrap64 (Int.tdiv a b)))))) = some (a / b) := by
  have hle : a / b ≤ 4611686018427387904 := by
    by_cases h : 0 ≤ a
    · exact Int.le_trans (Int.ediv_le_self b h) h2
    · have := Int.ediv_neg_of_neg_of_pos (by omega : a < 0) hb; omega
  have hge : -4611686018427387904 ≤ a / b := by
    by_cases h : 0 ≤ a
    · have := Int.ediv_nonneg h (by omega : 0 ≤ b); omega
    · exact Int.le_ediv_of_mul_le hb (by have : -4611686018427387904 * b ≤ -4611686018427387904 * 1 := by omega
                                         omega)
  rw [if_neg (by omega : ¬ b = 0)]
  by_cases hm : Int.tmod a b = 0
  · rw [if_pos hm, ediv_neg_of hb hm, wrap_id (by omega) (by omega)]
  · rw [if_neg hm]
    by_cases ha : a < 0
    · have e := ediv_floor hb ha hm
      rw [if_pos (by simp [ha]; omega), wrap_id (x := Int.tdiv a b) (by omega) (by omega), e, wrap_id (by omega) (by omega)]
    · rw [if_neg (by simp [ha]; omega), td_pos (by omega), wrap_id (by omega) (by omega)]

/-! loops, by what they come to in the end ('Ev') -/
theorem ev_down {ρ : Type} {F : Nat → Int → Option ρ} {r : ρ} (n : Nat) (hs : ∀ i : Nat, i < n → Ev (fun k => F k ((i + 1 : Nat) : Int)) r → Ev (fun k => F k (i : Int)) r)
    (he : Ev (fun k => F k (n : Int)) r) : Ev (fun k => F k 0) r := by
  have h : ∀ d i : Nat, i + d = n → Ev (fun k => F k (i : Int)) r := by
    intro d
    induction d with
    | zero => intro i hi; obtain rfl : i = n := by omega
              exact he
    | succ d ih => intro i hi; exact hs i (by omega) (ih (i + 1) (by omega))
  exact h n 0 (by omega)
theorem ev_ex {ρ : Type} {F : Nat → Int → Option ρ} (n : Nat) (hs : ∀ i : Nat, i < n → (∃ r, Ev (fun k => F k ((i + 1 : Nat) : Int)) r) → ∃ r, Ev (fun k => F k (i : Int)) r)
    (he : ∃ r, Ev (fun k => F k (n : Int)) r) : ∃ r, Ev (fun k => F k 0) r := by
  have h : ∀ d i : Nat, i + d = n → ∃ r, Ev (fun k => F k (i : Int)) r := by
    intro d
    induction d with
    | zero => intro i hi; obtain rfl : i = n := by omega
              exact he
    | succ d ih => intro i hi; exact hs i (by omega) (ih (i + 1) (by omega))
  exact h n 0 (by omega)
theorem ev_to {α β : Type} {F : Nat → List β → Int → Option (List β)} (l : List α) (h : α → β) (z : β)
    (hs : ∀ (acc : List β) (i : Nat) (hi : i < l.length) (r : List β), acc.length = l.length → Ev (fun k => F k (acc.set i (h l[i])) ((i + 1 : Nat) : Int)) r → Ev (fun k => F k acc (i : Int)) r)
    (he : ∀ acc : List β, Ev (fun k => F k acc (l.length : Int)) acc) : Ev (fun k => F k (List.replicate l.length z) 0) (l.map h) := by
  have g : ∀ (d i : Nat) (acc : List β), i + d = l.length → acc.length = l.length → (∀ j : Nat, j < i → acc[j]? = (l.map h)[j]?) → Ev (fun k => F k acc (i : Int)) (l.map h) := by
    intro d
    induction d with
    | zero =>
      intro i acc hi hl hp
      obtain rfl : i = l.length := by omega
      have e : acc = l.map h := by
        refine List.ext_getElem? fun j => ?_
        by_cases hj : j < l.length
        · exact hp j hj
        · rw [List.getElem?_eq_none (by omega), List.getElem?_eq_none (by rw [List.length_map]; omega)]
      have := he acc
      rw [e] at this ⊢; exact this
    | succ d ih =>
      intro i acc hi hl hp
      refine hs acc i (by omega) _ hl (ih (i + 1) _ (by omega) (by rw [List.length_set]; exact hl) fun j hj => ?_)
      rw [List.getElem?_set]
      by_cases e : i = j
      · subst e
        rw [if_pos rfl, if_pos (by omega), List.getElem?_map, List.getElem?_eq_getElem (by omega)]; rfl
      · rw [if_neg e]; exact hp j (by omega)
  exact g l.length 0 _ (by omega) List.length_replicate (fun j hj => absurd hj (by omega))
theorem ev_sz {α : Type} {F : Nat → Int → Int → Option Int} (l : List α) (B : α → Prop)
    (hs : ∀ (i : Nat) (hi : i < l.length) (left : Int), 0 ≤ left → left ≤ 1048576 →
      Ev (fun k => F k left (i : Int)) (-1) ∨ (∃ left', 0 ≤ left' ∧ left' ≤ left ∧ B l[i] ∧ ∀ t, Ev (fun k => F k left' ((i + 1 : Nat) : Int)) t → Ev (fun k => F k left (i : Int)) t))
    (he : ∀ left, Ev (fun k => F k left (l.length : Int)) left) (left : Int) (h0 : 0 ≤ left) (h1 : left ≤ 1048576) :
    Ev (fun k => F k left 0) (-1) ∨ ∃ t, 0 ≤ t ∧ t ≤ left ∧ Ev (fun k => F k left 0) t ∧ ∀ x ∈ l, B x := by
  have g : ∀ (d i : Nat) (left : Int), i + d = l.length → 0 ≤ left → left ≤ 1048576 → Ev (fun k => F k left (i : Int)) (-1) ∨ ∃ t, 0 ≤ t ∧ t ≤ left ∧ Ev (fun k => F k left (i : Int)) t ∧ ∀ j (hj : j < l.length), i ≤ j → B l[j] := by
    intro d
    induction d with
    | zero =>
      intro i left hi h0 h1
      obtain rfl : i = l.length := by omega
      exact .inr ⟨left, h0, Int.le_refl _, he left, fun j hj hij => absurd hj (by omega)⟩
    | succ d ih =>
      intro i left hi h0 h1
      rcases hs i (by omega) left h0 h1 with h | ⟨left', g0, g1, hB, hk⟩
      · exact .inl h
      · rcases ih (i + 1) left' (by omega) g0 (by omega) with h | ⟨t, t0, t1, ht, hb⟩
        · exact .inl (hk _ h)
        · refine .inr ⟨t, t0, by omega, hk _ ht, fun j hj hij => ?_⟩
          by_cases e : i = j
          · subst e; exact hB
          · exact hb j hj (by omega)
  rcases g l.length 0 left (by omega) h0 h1 with h | ⟨t, t0, t1, ht, hb⟩
  · exact .inl h
  · refine .inr ⟨t, t0, t1, ht, fun x hx => ?_⟩
    obtain ⟨j, hj, rfl⟩ := List.getElem_of_mem hx
    exact hb j hj (Nat.zero_le _)
theorem getD_at {α : Type} (l : List α) (z : α) (i : Nat) (h : i < l.length) : l.getD ((i : Int)).toNat z = l[i] := by
  rw [Int.toNat_natCast, List.getD_eq_getElem?_getD, List.getElem?_eq_getElem h]; rfl
theorem ev_all {α : Type} {F : Nat → Int → Option Bool} (l : List α) (p : α → Bool) (b : Bool)
    (hs : ∀ (i : Nat) (hi : i < l.length) (r : Bool), p l[i] = true → Ev (fun k => F k ((i + 1 : Nat) : Int)) r → Ev (fun k => F k (i : Int)) r)
    (hf : ∀ (i : Nat) (hi : i < l.length) (r : Bool), p l[i] = false → Ev (fun k => F k ((i + 1 : Nat) : Int)) r → Ev (fun k => F k (i : Int)) false)
    (he : Ev (fun k => F k (l.length : Int)) b) : Ev (fun k => F k 0) (l.all p && b) := by
  have h : ∀ d i : Nat, i + d = l.length → Ev (fun k => F k (i : Int)) ((l.drop i).all p && b) := by
    intro d
    induction d with
    | zero =>
      intro i hi; obtain rfl : i = l.length := by omega
      rw [List.drop_length]; exact he
    | succ d ih =>
      intro i hi
      have hlt : i < l.length := by omega
      rw [List.drop_eq_getElem_cons hlt, List.all_cons]
      cases hp : p l[i]
      · exact hf i hlt _ hp (ih (i + 1) (by omega))
      · exact hs i hlt _ hp (ih (i + 1) (by omega))
  exact h l.length 0 (by omega)

def goodRefB (r c : Int) : Bool := decide (1 ≤ r ∧ r ≤ 1000 ∧ 1 ≤ c ∧ c ≤ 200)
theorem specGoodRef_is (r c : Int) (a b : Bool) : spec_GoodRef.f r c a b = some (goodRefB r c) := by
  unfold spec_GoodRef.f goodRefB
  by_cases h1 : 1 ≤ r <;> by_cases h2 : r ≤ 1000 <;> by_cases h3 : 1 ≤ c <;> by_cases h4 : c ≤ 200 <;> simp [h1, h2, h3, h4]
theorem implGoodRef_is (r c : Int) (a b : Bool) : impl_GoodRef.f r c a b = some (goodRefB r c) := by
  unfold impl_GoodRef.f impl_Ref_place.f impl_place_good.f goodRefB
  simp only [Option.bind_some]
  by_cases h1 : 1 ≤ r <;> by_cases h2 : r ≤ 1000 <;> by_cases h3 : 1 ≤ c <;> by_cases h4 : c ≤ 200 <;> simp [h1, h2, h3, h4]

def goodAreaB (r c r2 c2 : Int) : Bool := goodRefB r c && goodRefB r2 c2
theorem specGoodArea_is (r c : Int) (a b : Bool) (r2 c2 : Int) (a2 b2 : Bool) : spec_GoodArea.f r c a b r2 c2 a2 b2 = some (goodAreaB r c r2 c2) := by
  unfold spec_GoodArea.f goodAreaB
  simp only [specGoodRef_is, Option.bind_some]
  cases goodRefB r c <;> simp
theorem implGoodArea_is (r c : Int) (a b : Bool) (r2 c2 : Int) (a2 b2 : Bool) : impl_GoodArea.f r c a b r2 c2 a2 b2 = some (goodAreaB r c r2 c2) := by
  unfold impl_GoodArea.f goodAreaB
  simp only [implGoodRef_is, Option.bind_some]
  cases goodRefB r c <;> simp

theorem eqRef_is (r c : Int) (a b : Bool) : laws_eqRef.f r c a b r c a b = some true := by
  unfold laws_eqRef.f; simp

theorem eqArea_is (r c : Int) (a b : Bool) (r2 c2 : Int) (a2 b2 : Bool) : laws_eqArea.f r c a b r2 c2 a2 b2 r c a b r2 c2 a2 b2 = some true := by
  unfold laws_eqArea.f; simp [eqRef_is]
theorem toArea_is (r c : Int) (a b : Bool) (r2 c2 : Int) (a2 b2 : Bool) : laws_toArea.f r c a b r2 c2 a2 b2 = some (r, c, a, b, r2, c2, a2, b2) := by
  unfold laws_toArea.f laws_toRef.f; rfl

theorem specMin_is (a b : Int) : spec_l3Min.f a b = some (min a b) := by
  unfold spec_l3Min.f
  by_cases h : a < b
  · rw [if_pos h]; congr 1; omega
  · rw [if_neg h]; congr 1; omega
theorem specMax_is (a b : Int) : spec_l3Max.f a b = some (max a b) := by
  unfold spec_l3Max.f
  by_cases h : a > b
  · rw [if_pos h]; congr 1; omega
  · rw [if_neg h]; congr 1; omega
theorem mn_is (a b : Int) : mn a b = min a b := by unfold mn; omega
theorem mx_is (a b : Int) : mx a b = max a b := by unfold mx; omega
/-- Normal's corners, whatever the fixes. -/
theorem specNormal_is (r c : Int) (a b : Bool) (r2 c2 : Int) (a2 b2 : Bool) : ∃ y1 y2 y3 y4, spec_l3Normal.f r c a b r2 c2 a2 b2 = some (min r r2, min c c2, y1, y2, max r r2, max c c2, y3, y4) := by
  unfold spec_l3Normal.f
  by_cases h1 : r > r2
  · by_cases h2 : c > c2
    · rw [if_pos h1, if_pos h2, show min r r2 = r2 from by omega, show min c c2 = c2 from by omega, show max r r2 = r from by omega, show max c c2 = c from by omega]; exact ⟨_, _, _, _, rfl⟩
    · rw [if_pos h1, if_neg h2, show min r r2 = r2 from by omega, show min c c2 = c from by omega, show max r r2 = r from by omega, show max c c2 = c2 from by omega]; exact ⟨_, _, _, _, rfl⟩
  · by_cases h2 : c > c2
    · rw [if_neg h1, if_pos h2, show min r r2 = r from by omega, show min c c2 = c2 from by omega, show max r r2 = r2 from by omega, show max c c2 = c from by omega]; exact ⟨_, _, _, _, rfl⟩
    · rw [if_neg h1, if_neg h2, show min r r2 = r from by omega, show min c c2 = c from by omega, show max r r2 = r2 from by omega, show max c c2 = c2 from by omega]; exact ⟨_, _, _, _, rfl⟩

/-- What Meet tells of two areas' corners. -/
def meetV (r c r2 c2 s d s2 d2 : Int) : Int × Int × Bool × Bool × Int × Int × Bool × Bool × Bool :=
  if goodAreaB r c r2 c2 && goodAreaB s d s2 d2 && decide (max (min r r2) (min s s2) ≤ min (max r r2) (max s s2) ∧ max (min c c2) (min d d2) ≤ min (max c c2) (max d d2)) then
    (max (min r r2) (min s s2), max (min c c2) (min d d2), false, false, min (max r r2) (max s s2), min (max c c2) (max d d2), false, false, true)
  else (0, 0, false, false, 0, 0, false, false, false)
theorem specMeet_is (k : Nat) (r c : Int) (a b : Bool) (r2 c2 : Int) (a2 b2 : Bool) (s d : Int) (e f : Bool) (s2 d2 : Int) (e2 f2 : Bool) :
    spec_Meet.f (k + 1) r c a b r2 c2 a2 b2 s d e f s2 d2 e2 f2 = some (meetV r c r2 c2 s d s2 d2) := by
  unfold spec_Meet.f meetV
  simp only [specGoodArea_is, Option.bind_some]
  obtain ⟨y1, y2, y3, y4, e1⟩ := specNormal_is r c a b r2 c2 a2 b2
  obtain ⟨z1, z2, z3, z4, e2'⟩ := specNormal_is s d e f s2 d2 e2 f2
  cases h1 : goodAreaB r c r2 c2
  · simp [spec_Meet.j0]
  · cases h2 : goodAreaB s d s2 d2
    · simp [spec_Meet.j0]
    · simp only [spec_Meet.j0, e1, e2', specMin_is, specMax_is, spec_l3Area.f, Option.bind_some, if_true, Bool.not_true, Bool.false_eq_true, if_false, Bool.and_self, Bool.true_and]
      by_cases h3 : max (min r r2) (min s s2) > min (max r r2) (max s s2)
      · rw [if_pos h3, decide_eq_false (by omega)]; simp
      · rw [if_neg h3]
        by_cases h4 : max (min c c2) (min d d2) > min (max c c2) (max d d2)
        · rw [if_pos h4, decide_eq_false (by omega)]; simp
        · rw [if_neg h4, decide_eq_true (by omega)]; simp
theorem implMeet_is (k : Nat) (r c : Int) (a b : Bool) (r2 c2 : Int) (a2 b2 : Bool) (s d : Int) (e f : Bool) (s2 d2 : Int) (e2 f2 : Bool) :
    impl_Meet.f (k + 1) r c a b r2 c2 a2 b2 s d e f s2 d2 e2 f2 = some (meetV r c r2 c2 s d s2 d2) := by
  unfold impl_Meet.f meetV
  simp only [implGoodArea_is, Option.bind_some]
  cases h1 : goodAreaB r c r2 c2
  · simp [impl_Meet.j0]
  · cases h2 : goodAreaB s d s2 d2
    · simp [impl_Meet.j0]
    · simp only [impl_Meet.j0, impl_Area_block.f, impl_blockOf.f, impl_block_area.f, mn_is, mx_is, Option.bind_some, if_true, Bool.not_true, Bool.false_eq_true, if_false, Bool.and_self, Bool.true_and]
      by_cases h3 : max (min r r2) (min s s2) ≤ min (max r r2) (max s s2)
      · rw [if_pos h3]
        by_cases h4 : max (min c c2) (min d d2) ≤ min (max c c2) (max d d2)
        · simp only [Option.bind_some]; rw [decide_eq_true h4, decide_eq_true (And.intro h3 h4)]; simp
        · simp only [Option.bind_some]; rw [decide_eq_false h4, decide_eq_false (fun h => h4 h.2)]; simp
      · rw [if_neg h3, decide_eq_false (fun h => h3 h.1)]; simp

/-- What is marked is held: a loop that writes the marks, and one that looks at them. -/
theorem ev_marks {β : Type} {F : Nat → List β → Int → Int → Option (Int × List β)} {H : Nat → List β → Int → Int → Option Int} (mk : Int → β) (s : Int) (hs : 0 ≤ s ∧ s ≤ 100) (n : Nat) (hn : n ≤ 1048576)
    (hF : ∀ (l : List β) (m : Int) (i : Nat) (r : Int × List β), l.length = n → i < n → 1 ≤ m → m ≤ 200000000 → Ev (fun k => F k (l.set i (mk m)) (m + s) ((i + 1 : Nat) : Int)) r → Ev (fun k => F k l m (i : Int)) r)
    (eF : ∀ (l : List β) (m : Int), l.length = n → Ev (fun k => F k l m (n : Int)) (m, l))
    (hH : ∀ (l : List β) (m : Int) (i : Nat) (r : Int), l.length = n → i < n → l[i]? = some (mk m) → 1 ≤ m → m ≤ 200000000 → Ev (fun k => H k l (m + s) ((i + 1 : Nat) : Int)) r → Ev (fun k => H k l m (i : Int)) r)
    (eH : ∀ (l : List β) (m : Int), l.length = n → Ev (fun k => H k l m (n : Int)) m) (l : List β) (hl : l.length = n) :
    ∃ m l', l'.length = n ∧ Ev (fun k => F k l 1 0) (m, l') ∧ Ev (fun k => H k l' 1 0) m ∧ 0 ≤ m := by
  have hb : ∀ i : Nat, i ≤ n → 1 ≤ 1 + s * i ∧ 1 + s * i ≤ 200000000 := fun i hi => by
    have h1 : 0 ≤ s * (i : Int) := Int.mul_nonneg hs.1 (by omega)
    have h2 : s * (i : Int) ≤ 100 * 1048576 := Int.mul_le_mul hs.2 (by omega) (by omega) (by omega)
    omega
  have hstep : ∀ i : Nat, 1 + s * ((i + 1 : Nat) : Int) = 1 + s * (i : Int) + s := fun i => by rw [Int.natCast_add, Int.mul_add]; simp; omega
  have g : ∀ (d i : Nat) (l : List β), i + d = n → l.length = n → (∀ j : Nat, j < i → l[j]? = some (mk (1 + s * j))) → ∃ l', l'.length = n ∧ (∀ j : Nat, j < n → l'[j]? = some (mk (1 + s * j))) ∧ Ev (fun k => F k l (1 + s * i) (i : Int)) (1 + s * n, l') := by
    intro d
    induction d with
    | zero =>
      intro i l hi hl hp
      obtain rfl : i = n := by omega
      exact ⟨l, hl, hp, eF l _ hl⟩
    | succ d ih =>
      intro i l hi hl hp
      obtain ⟨l', h1, h2, h3⟩ := ih (i + 1) (l.set i (mk (1 + s * i))) (by omega) (by rw [List.length_set]; exact hl) (fun j hj => by
        rw [List.getElem?_set]
        by_cases e : i = j
        · subst e; rw [if_pos rfl, if_pos (by omega)]
        · rw [if_neg e]; exact hp j (by omega))
      rw [hstep] at h3
      exact ⟨l', h1, h2, hF l _ i _ hl (by omega) (hb i (by omega)).1 (hb i (by omega)).2 h3⟩
  obtain ⟨l', h1, h2, h3⟩ := g n 0 l (by omega) hl (fun j hj => by omega)
  have k : ∀ (d i : Nat), i + d = n → Ev (fun k => H k l' (1 + s * i) (i : Int)) (1 + s * n) := by
    intro d
    induction d with
    | zero =>
      intro i hi
      obtain rfl : i = n := by omega
      exact eH l' _ h1
    | succ d ih =>
      intro i hi
      have := ih (i + 1) (by omega)
      rw [hstep] at this
      exact hH l' _ i _ h1 (by omega) (h2 i (by omega)) (hb i (by omega)).1 (hb i (by omega)).2 this
  have k0 := k n 0 (by omega)
  simp only [Int.natCast_zero, Int.mul_zero, Int.add_zero] at h3 k0
  exact ⟨1 + s * n, l', h1, h3, k0, by have := hb n (Nat.le_refl _); omega⟩

theorem wrapsUp (m : Int) (h1 : 1 ≤ m) (h2 : m ≤ 200000000) : wrap64 (m + 1) = m + 1 ∧ wrap64 (m + 1 + 1) = m + 1 + 1 ∧ wrap64 (m + 1 + 1 + 1) = m + 1 + 1 + 1 ∧ wrap64 (m + 1 + 1 + 1 + 1) = m + 1 + 1 + 1 + 1 ∧ wrap64 (m + 1 + 1 + 1 + 1 + 1) = m + 1 + 1 + 1 + 1 + 1 ∧ wrap64 (m + 1 + 1 + 1 + 1 + 1 + 1) = m + 1 + 1 + 1 + 1 + 1 + 1 ∧ wrap64 (m + 1 + 1 + 1 + 1 + 1 + 1 + 1) = m + 1 + 1 + 1 + 1 + 1 + 1 + 1 ∧ wrap64 (m + 1 + 1 + 1 + 1 + 1 + 1 + 1 + 1) = m + 1 + 1 + 1 + 1 + 1 + 1 + 1 + 1 ∧ wrap64 (m + 1 + 1 + 1 + 1 + 1 + 1 + 1 + 1 + 1) = m + 1 + 1 + 1 + 1 + 1 + 1 + 1 + 1 + 1 ∧ wrap64 (m + 1 + 1 + 1 + 1 + 1 + 1 + 1 + 1 + 1 + 1) = m + 1 + 1 + 1 + 1 + 1 + 1 + 1 + 1 + 1 + 1 ∧ wrap64 (m + 1 + 1 + 1 + 1 + 1 + 1 + 1 + 1 + 1 + 1 + 1) = m + 1 + 1 + 1 + 1 + 1 + 1 + 1 + 1 + 1 + 1 + 1 ∧ wrap64 (m + 1 + 1 + 1 + 1 + 1 + 1 + 1 + 1 + 1 + 1 + 1 + 1) = m + 1 + 1 + 1 + 1 + 1 + 1 + 1 + 1 + 1 + 1 + 1 + 1 := by
  refine ⟨?_, ?_, ?_, ?_, ?_, ?_, ?_, ?_, ?_, ?_, ?_, ?_⟩ <;> exact wrap_id (by omega) (by omega)

def mkA (m : Int) : S33 := ⟨⟨m, m + 1, Int.tmod (m + 1 + 1) 3 == 0, Int.tmod (m + 1 + 1 + 1) 3 == 0⟩, ⟨m + 1 + 1 + 1 + 1, m + 1 + 1 + 1 + 1 + 1, Int.tmod (m + 1 + 1 + 1 + 1 + 1 + 1) 3 == 0, Int.tmod (m + 1 + 1 + 1 + 1 + 1 + 1 + 1) 3 == 0⟩⟩
theorem rdA_set (l : List S33) (i : Nat) (x : S33) (h : i < l.length) : rd_T33 (l.set i x) (i : Int) = x := by
  unfold rd_T33
  rw [Int.toNat_natCast, List.getD_eq_getElem?_getD, List.getElem?_set, if_pos rfl, if_pos h]; rfl
theorem rdA_of (l : List S33) (i : Nat) (x : S33) (h : l[i]? = some x) : rd_T33 l (i : Int) = x := by
  unfold rd_T33
  rw [Int.toNat_natCast, List.getD_eq_getElem?_getD, h]; rfl
theorem marksA (l : List S33) (hl : l.length ≤ 1048576) : ∃ m l', l'.length = l.length ∧ Ev (fun k => laws_markAreaS.f k l 1) (m, l') ∧ Ev (fun k => laws_heldAreaS.f k l' 1) m ∧ 0 ≤ m := by
  refine ev_marks (F := fun k l m i => laws_markAreaS.l0 k l m i) (H := fun k l m i => laws_heldAreaS.l0 k l m i) mkA 8 (by omega) l.length hl ?_ ?_ ?_ ?_ l rfl
  · intro x m i r hx hi h1 h2 h
    have hix : i < x.length := by omega
    have e8 : m + 1 + 1 + 1 + 1 + 1 + 1 + 1 + 1 = m + 8 := by omega
    have wi := wrap_id (x := (i : Int) + 1) (by have := hl; omega) (by have := hl; omega)
    refine Ev.step (fun k => ?_) h
    simp only [laws_markAreaS.l0]
    rw [if_pos (by omega), if_pos (by omega)]
    obtain ⟨w1, w2, w3, w4, w5, w6, w7, w8, _⟩ := wrapsUp m h1 h2
    simp only [Option.bind_some, w1, w2, w3, w4, w5, w6, w7, w8, wi, Int.toNat_natCast, rdA_set _ i _ hix, List.set_set, List.length_set]
    rw [e8]; rfl
  · intro x m hx
    refine Ev.step (f := fun _ => some (m, x)) (fun k => ?_) (Ev.now _)
    simp only [laws_markAreaS.l0]
    rw [if_neg (by omega)]
  · intro x m i r hx hi hm h1 h2 h
    have hix : i < x.length := by omega
    have e8 : m + 1 + 1 + 1 + 1 + 1 + 1 + 1 + 1 = m + 8 := by omega
    have wi := wrap_id (x := (i : Int) + 1) (by have := hl; omega) (by have := hl; omega)
    refine Ev.step (fun k => ?_) h
    simp only [laws_heldAreaS.l0]
    rw [if_pos (by omega), if_pos (by omega)]
    obtain ⟨w1, w2, w3, w4, w5, w6, w7, w8, _⟩ := wrapsUp m h1 h2
    simp only [rdA_of x i _ hm, mkA, w1, w2, w3, w4, w5, w6, w7, w8, wi, if_true, bne_self_eq_false, Bool.false_eq_true, if_false]
    rw [e8]; rfl
  · intro x m hx
    refine Ev.step (f := fun _ => some m) (fun k => ?_) (Ev.now _)
    simp only [laws_heldAreaS.l0]
    rw [if_neg (by omega)]

def withoutV (r c r2 c2 s d s2 d2 : Int) : List S33 :=
  if goodAreaB r c r2 c2 && goodAreaB s d s2 d2 then
    (if max (min r r2) (min s s2) ≤ min (max r r2) (max s s2) ∧ max (min c c2) (min d d2) ≤ min (max c c2) (max d d2) then
      piecesV (min r r2) (min c c2) (max r r2) (max c c2) (min s s2) (min d d2) (max s s2) (max d d2) else [areaV (min r r2) (min c c2) (max r r2) (max c c2)])
  else []
theorem implWithout_is (r c : Int) (a b : Bool) (r2 c2 : Int) (a2 b2 : Bool) (s d : Int) (e f : Bool) (s2 d2 : Int) (e2 f2 : Bool) :
    impl_Without.f r c a b r2 c2 a2 b2 s d e f s2 d2 e2 f2 = some (withoutV r c r2 c2 s d s2 d2) := by
  unfold impl_Without.f withoutV
  simp only [implGoodArea_is, Option.bind_some, implMeet_is 8, mn_is, mx_is]
  cases h1 : goodAreaB r c r2 c2
  · simp
  · cases h2 : goodAreaB s d s2 d2
    · simp
    · simp only [if_true, Option.bind_some, Bool.and_self]
      unfold meetV
      rw [h1, h2]
      by_cases h : max (min r r2) (min s s2) ≤ min (max r r2) (max s s2) ∧ max (min c c2) (min d d2) ≤ min (max c c2) (max d d2)
      · rw [decide_eq_true h, if_pos (by rfl), if_pos h]
        first | done | simp
      · rw [decide_eq_false h, if_neg (by simp), if_neg h]
        first | done | simp
theorem goodB_rng {r c r2 c2 : Int} (h : goodAreaB r c r2 c2 = true) : 1 ≤ r ∧ r ≤ 1000 ∧ 1 ≤ c ∧ c ≤ 200 ∧ 1 ≤ r2 ∧ r2 ≤ 1000 ∧ 1 ≤ c2 ∧ c2 ≤ 200 := by
  unfold goodAreaB goodRefB at h
  simp only [Bool.and_eq_true, decide_eq_true_eq] at h
  omega
theorem piece_if (p : Prop) [Decidable p] (r c tr tc : Int) (h : p ↔ (r ≤ tr ∧ c ≤ tc)) : pieceV r c tr tc = if p then [areaV r c tr tc] else [] := by
  unfold pieceV
  by_cases hp : p
  · rw [if_pos hp, if_pos (h.1 hp)]
  · rw [if_neg hp, if_neg (fun q => hp (h.2 q))]
theorem pieceV_le (r c tr tc : Int) : (pieceV r c tr tc).length ≤ 1 := by unfold pieceV; split <;> simp
theorem woj2 (k : Nat) (acc : List S33) (hl : acc.length ≤ 4) (xr xc : Int) (p1 p2 : Bool) (xt xu : Int) (p3 p4 : Bool) (mr mc : Int) (q1 q2 : Bool) (mt mu : Int) (q3 q4 : Bool) :
    spec_Without.j2 (k + 1) acc xr xc p1 p2 xt xu p3 p4 mr mc q1 q2 mt mu q3 q4 = some (acc ++ (if xc < mc then [areaV mr xc mt (wrap64 (mc - 1))] else []) ++ (if xu > mu then [areaV mr (wrap64 (mu + 1)) mt xu] else [])) := by
  rw [spec_Without.j2]
  by_cases c1 : xc < mc
  · rw [if_pos c1, if_pos c1]
    simp only [spec_l3Area.f, Option.bind_some]
    rw [if_pos (by omega)]
    by_cases c2 : xu > mu
    · rw [if_pos c2, if_pos c2, if_pos (by rw [List.length_append]; simp; omega)]; rfl
    · rw [if_neg c2, if_neg c2, List.append_nil]; rfl
  · rw [if_neg c1, if_neg c1, List.append_nil]
    by_cases c2 : xu > mu
    · rw [if_pos c2, if_pos c2]
      simp only [spec_l3Area.f, Option.bind_some]
      rw [if_pos (by omega)]; rfl
    · rw [if_neg c2, if_neg c2, List.append_nil]
theorem woj1 (k : Nat) (acc : List S33) (hl : acc.length ≤ 3) (xr xc : Int) (p1 p2 : Bool) (xt xu : Int) (p3 p4 : Bool) (mr mc : Int) (q1 q2 : Bool) (mt mu : Int) (q3 q4 : Bool) :
    spec_Without.j1 (k + 2) acc xr xc p1 p2 xt xu p3 p4 mr mc q1 q2 mt mu q3 q4 = some (acc ++ (if xt > mt then [areaV (wrap64 (mt + 1)) xc xt xu] else []) ++ (if xc < mc then [areaV mr xc mt (wrap64 (mc - 1))] else []) ++ (if xu > mu then [areaV mr (wrap64 (mu + 1)) mt xu] else [])) := by
  rw [spec_Without.j1]
  by_cases c1 : xt > mt
  · rw [if_pos c1, if_pos c1]
    simp only [spec_l3Area.f, Option.bind_some]
    rw [if_pos (by omega), woj2 k _ (by rw [List.length_append]; simp; omega)]; rfl
  · rw [if_neg c1, if_neg c1, woj2 k _ (by omega), List.append_nil]
theorem if_area (p : Prop) [Decidable p] (x y : S33) (h : p → x = y) : (if p then [x] else []) = (if p then [y] else []) := by
  by_cases hp : p
  · rw [if_pos hp, if_pos hp, h hp]
  · rw [if_neg hp, if_neg hp]
theorem specWithout_is (k : Nat) (r c : Int) (a b : Bool) (r2 c2 : Int) (a2 b2 : Bool) (s d : Int) (e f : Bool) (s2 d2 : Int) (e2 f2 : Bool) :
    spec_Without.f (k + 4) r c a b r2 c2 a2 b2 s d e f s2 d2 e2 f2 = some (withoutV r c r2 c2 s d s2 d2) := by
  unfold spec_Without.f withoutV
  simp only [specGoodArea_is, Option.bind_some]
  cases h1 : goodAreaB r c r2 c2
  · simp [spec_Without.j0]
  · cases h2 : goodAreaB s d s2 d2
    · simp [spec_Without.j0]
    · obtain ⟨y1, y2, y3, y4, e1⟩ := specNormal_is r c a b r2 c2 a2 b2
      have g1 := goodB_rng h1; have g2 := goodB_rng h2
      have hn : goodAreaB (min r r2) (min c c2) (max r r2) (max c c2) = true := by
        unfold goodAreaB goodRefB; simp only [Bool.and_eq_true, decide_eq_true_eq]; omega
      simp only [if_true, Bool.not_true, Bool.and_self]
      rw [spec_Without.j0]
      simp only [Bool.false_eq_true, if_false, e1, Option.bind_some, specMeet_is (k + 2)]
      unfold meetV
      rw [hn, h2, show min (min r r2) (max r r2) = min r r2 from by omega, show max (min r r2) (max r r2) = max r r2 from by omega, show min (min c c2) (max c c2) = min c c2 from by omega, show max (min c c2) (max c c2) = max c c2 from by omega]
      by_cases hm : max (min r r2) (min s s2) ≤ min (max r r2) (max s s2) ∧ max (min c c2) (min d d2) ≤ min (max c c2) (max d d2)
      · rw [decide_eq_true hm, if_pos (show (true && true && true) = true from rfl), if_pos hm]
        unfold piecesV
        have x1 : min r r2 ≤ max r r2 := by omega
        have x2 : min c c2 ≤ max c c2 := by omega
        generalize min r r2 = xr at *; generalize min c c2 = xc at *; generalize max r r2 = xt at *; generalize max c c2 = xu at *
        have z1 : 1 ≤ min s s2 ∧ min s s2 ≤ 1000 := by omega
        have z2 : 1 ≤ min d d2 ∧ min d d2 ≤ 1000 := by omega
        have z3 : 1 ≤ max s s2 ∧ max s s2 ≤ 1000 := by omega
        have z4 : 1 ≤ max d d2 ∧ max d d2 ≤ 1000 := by omega
        generalize min s s2 = yr at *; generalize min d d2 = yc at *; generalize max s s2 = yt at *; generalize max d d2 = yu at *
        simp only [mn_is, mx_is]
        rw [wrap_id (x := yr - 1) (by omega) (by omega), wrap_id (x := yt + 1) (by omega) (by omega), wrap_id (x := yc - 1) (by omega) (by omega), wrap_id (x := yu + 1) (by omega) (by omega)]
        rw [piece_if (xr < max xr yr) xr xc (min xt (yr - 1)) xu (by omega), piece_if (xt > min xt yt) (max xr (yt + 1)) xc xt xu (by omega), piece_if (xc < max xc yc) (max xr yr) xc (min xt yt) (min xu (yc - 1)) (by omega), piece_if (xu > min xu yu) (max xr yr) (max xc (yu + 1)) (min xt yt) xu (by omega)]
        have q1 : xr < max xr yr → min xt (yr - 1) = max xr yr - 1 := by omega
        have q2 : xt > min xt yt → max xr (yt + 1) = min xt yt + 1 := by omega
        have q3 : xc < max xc yc → min xu (yc - 1) = max xc yc - 1 := by omega
        have q4 : xu > min xu yu → max xc (yu + 1) = min xu yu + 1 := by omega
        have r1 : 1 ≤ max xr yr ∧ max xr yr ≤ 1000 := by omega
        have r2' : 1 ≤ min xt yt ∧ min xt yt ≤ 1000 := by omega
        have r3 : 1 ≤ max xc yc ∧ max xc yc ≤ 1000 := by omega
        have r4 : 1 ≤ min xu yu ∧ min xu yu ≤ 1000 := by omega
        generalize max xr yr = mr at *; generalize min xt yt = mt at *; generalize max xc yc = mc at *; generalize min xu yu = mu at *
        have w1 := wrap_id (x := mr - 1) (by omega) (by omega)
        have w2 := wrap_id (x := mt + 1) (by omega) (by omega)
        have w3 := wrap_id (x := mc - 1) (by omega) (by omega)
        have w4 := wrap_id (x := mu + 1) (by omega) (by omega)
        rw [if_area (xr < mr) (areaV xr xc (min xt (yr - 1)) xu) (areaV xr xc (wrap64 (mr - 1)) xu) (fun h => by rw [q1 h, w1]), if_area (xt > mt) (areaV (max xr (yt + 1)) xc xt xu) (areaV (wrap64 (mt + 1)) xc xt xu) (fun h => by rw [q2 h, w2]), if_area (xc < mc) (areaV mr xc mt (min xu (yc - 1))) (areaV mr xc mt (wrap64 (mc - 1))) (fun h => by rw [q3 h, w3]), if_area (xu > mu) (areaV mr (max xc (yu + 1)) mt xu) (areaV mr (wrap64 (mu + 1)) mt xu) (fun h => by rw [q4 h, w4])]
        simp only [if_true, spec_l3Area.f, Option.bind_some]
        by_cases c1 : xr < mr
        · rw [if_pos c1, if_pos c1, if_pos (by simp), woj1 (k + 1) _ (by simp)]; rfl
        · rw [if_neg c1, if_neg c1, woj1 (k + 1) _ (by simp)]
      · rw [decide_eq_false hm, if_neg (by simp), if_neg hm]
        simp [spec_l3Area.f, areaV]
theorem eqAreaS_is (l : List S33) (hl : l.length ≤ 1048576) : Ev (fun k => laws_eqAreaS.f k l l) true := by
  have h : Ev (fun k => laws_eqAreaS.l0 k l l 0) true := by
    refine ev_down (F := fun k i => laws_eqAreaS.l0 k l l i) l.length (fun i hi h => ?_) ?_
    · refine Ev.step (fun k => ?_) h
      simp only [laws_eqAreaS.l0]
      rw [if_pos (by omega), if_pos (by omega), if_pos (by omega), eqArea_is]
      simp only [Option.bind_some, if_true]
      rw [wrap_id (x := (i : Int) + 1) (by omega) (by omega)]; rfl
    · refine Ev.step (f := fun _ => some true) (fun k => ?_) (Ev.now _)
      simp only [laws_eqAreaS.l0]
      rw [if_neg (by omega)]
  refine Ev.congr (fun k => ?_) h
  unfold laws_eqAreaS.f; rw [if_pos rfl]
theorem withoutV_len (r c r2 c2 s d s2 d2 : Int) : (withoutV r c r2 c2 s d s2 d2).length ≤ 4 := by
  unfold withoutV
  split
  · split
    · unfold piecesV
      rw [List.length_append, List.length_append, List.length_append]
      have h1 := pieceV_le (min r r2) (min c c2) (mn (max r r2) (wrap64 (min s s2 - 1))) (max c c2)
      have h2 := pieceV_le (mx (min r r2) (wrap64 (max s s2 + 1))) (min c c2) (max r r2) (max c c2)
      have h3 := pieceV_le (mx (min r r2) (min s s2)) (min c c2) (mn (max r r2) (max s s2)) (mn (max c c2) (wrap64 (min d d2 - 1)))
      have h4 := pieceV_le (mx (min r r2) (min s s2)) (mx (min c c2) (wrap64 (max d d2 + 1))) (mn (max r r2) (max s s2)) (max c c2)
      omega
    · simp
  · simp

theorem FnExactWithout : ∀ (a0_0 : Int) (a0_1 : Int) (a0_2 : Bool) (a0_3 : Bool) (a0_4 : Int) (a0_5 : Int) (a0_6 : Bool) (a0_7 : Bool) (a1_0 : Int) (a1_1 : Int) (a1_2 : Bool) (a1_3 : Bool) (a1_4 : Int) (a1_5 : Int) (a1_6 : Bool) (a1_7 : Bool), (Lit.int .i64 a0_0).wf = true → (Lit.int .i64 a0_1).wf = true → (Lit.int .i64 a0_4).wf = true → (Lit.int .i64 a0_5).wf = true → (Lit.int .i64 a1_0).wf = true → (Lit.int .i64 a1_1).wf = true → (Lit.int .i64 a1_4).wf = true → (Lit.int .i64 a1_5).wf = true → ∃ k, laws_FnExactWithout.f k a0_0 a0_1 a0_2 a0_3 a0_4 a0_5 a0_6 a0_7 a1_0 a1_1 a1_2 a1_3 a1_4 a1_5 a1_6 a1_7 = some true := by
  intro r c a b r2 c2 a2 b2 s d e f s2 d2 e2 f2 _ _ _ _ _ _ _ _
  have hlen := withoutV_len r c r2 c2 s d s2 d2
  have hspec : Ev (fun k => spec_Without.f k r c a b r2 c2 a2 b2 s d e f s2 d2 e2 f2) (withoutV r c r2 c2 s d s2 d2) := ⟨4, fun k hk => by
    obtain ⟨k, rfl⟩ : ∃ m, k = m + 4 := ⟨k - 4, by omega⟩
    exact specWithout_is k r c a b r2 c2 a2 b2 s d e f s2 d2 e2 f2⟩
  have heq := eqAreaS_is (withoutV r c r2 c2 s d s2 d2) (by omega)
  obtain ⟨m, l', hl', hm, hh, h0⟩ := marksA (withoutV r c r2 c2 s d s2 d2) (by omega)
  unfold laws_FnExactWithout.f
  simp only [toArea_is, Option.bind_some, implWithout_is]
  obtain ⟨K1, h1⟩ := hspec; obtain ⟨K2, h2⟩ := heq; obtain ⟨K3, h3⟩ := hm; obtain ⟨K4, h4⟩ := hh
  simp only at h1 h2 h3 h4
  refine ⟨K1 + K2 + K3 + K4, ?_⟩
  rw [h1 _ (by omega)]; simp only [Option.bind_some]
  rw [h2 _ (by omega)]; simp only [Option.bind_some, if_true]
  rw [h3 _ (by omega)]; simp only [Option.bind_some]
  rw [h4 _ (by omega)]; simp only [Option.bind_some, if_true]
  rw [if_neg (by omega), if_neg (by omega)]

end Go.Proofs.Ytojfkjggpdlngaa.Pure
