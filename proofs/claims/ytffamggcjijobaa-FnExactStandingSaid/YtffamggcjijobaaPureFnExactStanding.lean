/- The plain law of FnExactStanding: what the program computes is what the reference computes, for every input (no further condition). -/
import Derived.Test.YtffamggcjijobaaMFnExactStandinga5
import Derived.Test.YtffamggcjijobaaRFnExactStanding
namespace Go.Proofs.Ytffamggcjijobaa.Pure
open Go.RowKit Go.Proofs.Ytffamggcjijobaa.PFnExactStanding Go.Proofs.YtffamggcjijobaaW.PrintWords Go.Proofs.YtffamggcjijobaaW.PrintLast

set_option linter.unusedVariables false
set_option linter.unusedSimpArgs false
/-! plain facts on whole numbers -/
theorem wrap_id {x : Int} (h1 : -9223372036854775808 ≤ x) (h2 : x ≤ 9223372036854775807) : wrap64 x = x := by
  unfold wrap64; omega
theorem td_pos {a b : Int} (h : 0 ≤ a) : a.tdiv b = a / b := Int.tdiv_eq_ediv_of_nonneg h
theorem td_neg {a b : Int} (h : a ≤ 0) : a.tdiv b = -((-a) / b) := by
  rw [← Int.tdiv_eq_ediv_of_nonneg (by omega : 0 ≤ -a), Int.neg_tdiv]; omega
theorem tm_pos {a b : Int} (h : 0 ≤ a) : a.tmod b = a % b := Int.tmod_eq_emod_of_nonneg h
theorem tm_neg {a b : Int} (h : a ≤ 0) : a.tmod b = -((-a) % b) := by
  rw [← Int.tmod_eq_emod_of_nonneg (by omega : 0 ≤ -a), Int.neg_tmod]; omega
theorem tm_zero (a b : Int) : a.tmod b = 0 ↔ a % b = 0 := by
  rw [← Int.dvd_iff_tmod_eq_zero, ← Int.dvd_iff_emod_eq_zero]
theorem ediv_is {a b q r : Int} (hb : 0 < b) (h : a = b * q + r) (h0 : 0 ≤ r) (h1 : r < b) : a / b = q := by
  rw [h, Int.add_comm, Int.add_mul_ediv_left _ _ (by omega), Int.ediv_eq_zero_of_lt h0 h1]; omega
theorem ediv_neg_of {a b : Int} (hb : 0 < b) (h : a.tmod b = 0) : a.tdiv b = a / b := by
  have e := Int.mul_tdiv_add_tmod a b
  rw [h] at e
  exact (ediv_is hb (q := a.tdiv b) (r := 0) (by omega) (by omega) hb).symm
theorem ediv_floor {a b : Int} (hb : 0 < b) (ha : a < 0) (h : a.tmod b ≠ 0) : a.tdiv b - 1 = a / b := by
  have e := Int.mul_tdiv_add_tmod a b
  have hm := tm_neg (a := a) (b := b) (by omega)
  have h0 := Int.emod_nonneg (-a) (by omega : b ≠ 0)
  have h1 := Int.emod_lt_of_pos (-a) hb
  refine (ediv_is hb (q := a.tdiv b - 1) (r := a.tmod b + b) ?_ (by omega) (by omega)).symm
  rw [Int.mul_sub]; omega
/-- The floor, as both programs reckon it. -/
theorem floor_is {a b : Int} (hb : 0 < b) (h1 : -4611686018427387904 ≤ a) (h2 : a ≤ 4611686018427387904) :
    (if b = 0 then (none) else (if (Int.tmod a b) = 0 then (some (wrap64 (Int.tdiv a b))) else (if ((decide (a < 0)) != (decide (b < 0))) = true then (some (wrap64 ((wrap64 (Int.tdiv a b)) - 1))) else (some (wrap64 (Int.tdiv a b)))))) = some (a / b) := by
  have hle : a / b ≤ 4611686018427387904 := by
    by_cases h : 0 ≤ a
    · exact Int.le_trans (Int.ediv_le_self b h) h2
    · have := Int.ediv_neg_of_neg_of_pos (by omega : a < 0) hb; omega
  have hge : -4611686018427387904 ≤ a / b := by
    by_cases h : 0 ≤ a
    · have := Int.ediv_nonneg h (by omega : 0 ≤ b); omega
    · exact Int.le_ediv_of_mul_le hb (by have : -4611686018427387904 * b ≤ -4611686018427387904 * 1 := by omega
                                         omega)
  rw [if_neg (by omega : ¬ b = 0)]
  by_cases hm : Int.tmod a b = 0
  · rw [if_pos hm, ediv_neg_of hb hm, wrap_id (by omega) (by omega)]
  · rw [if_neg hm]
    by_cases ha : a < 0
    · have e := ediv_floor hb ha hm
      rw [if_pos (by simp [ha]; omega), wrap_id (x := Int.tdiv a b) (by omega) (by omega), e, wrap_id (by omega) (by omega)]
    · rw [if_neg (by simp [ha]; omega), td_pos (by omega), wrap_id (by omega) (by omega)]

/-! loops, by what they come to in the end ('Ev') -/
theorem ev_down {ρ : Type} {F : Nat → Int → Option ρ} {r : ρ} (n : Nat) (hs : ∀ i : Nat, i < n → Ev (fun k => F k ((i + 1 : Nat) : Int)) r → Ev (fun k => F k (i : Int)) r)
    (he : Ev (fun k => F k (n : Int)) r) : Ev (fun k => F k 0) r := by
  have h : ∀ d i : Nat, i + d = n → Ev (fun k => F k (i : Int)) r := by
    intro d
    induction d with
    | zero => intro i hi; obtain rfl : i = n := by omega
              exact he
    | succ d ih => intro i hi; exact hs i (by omega) (ih (i + 1) (by omega))
  exact h n 0 (by omega)
theorem ev_ex {ρ : Type} {F : Nat → Int → Option ρ} (n : Nat) (hs : ∀ i : Nat, i < n → (∃ r, Ev (fun k => F k ((i + 1 : Nat) : Int)) r) → ∃ r, Ev (fun k => F k (i : Int)) r)
    (he : ∃ r, Ev (fun k => F k (n : Int)) r) : ∃ r, Ev (fun k => F k 0) r := by
  have h : ∀ d i : Nat, i + d = n → ∃ r, Ev (fun k => F k (i : Int)) r := by
    intro d
    induction d with
    | zero => intro i hi; obtain rfl : i = n := by omega
              exact he
    | succ d ih => intro i hi; exact hs i (by omega) (ih (i + 1) (by omega))
  exact h n 0 (by omega)
theorem ev_to {α β : Type} {F : Nat → List β → Int → Option (List β)} (l : List α) (h : α → β) (z : β)
    (hs : ∀ (acc : List β) (i : Nat) (hi : i < l.length) (r : List β), acc.length = l.length → Ev (fun k => F k (acc.set i (h l[i])) ((i + 1 : Nat) : Int)) r → Ev (fun k => F k acc (i : Int)) r)
    (he : ∀ acc : List β, Ev (fun k => F k acc (l.length : Int)) acc) : Ev (fun k => F k (List.replicate l.length z) 0) (l.map h) := by
  have g : ∀ (d i : Nat) (acc : List β), i + d = l.length → acc.length = l.length → (∀ j : Nat, j < i → acc[j]? = (l.map h)[j]?) → Ev (fun k => F k acc (i : Int)) (l.map h) := by
    intro d
    induction d with
    | zero =>
      intro i acc hi hl hp
      obtain rfl : i = l.length := by omega
      have e : acc = l.map h := by
        refine List.ext_getElem? fun j => ?_
        by_cases hj : j < l.length
        · exact hp j hj
        · rw [List.getElem?_eq_none (by omega), List.getElem?_eq_none (by rw [List.length_map]; omega)]
      have := he acc
      rw [e] at this ⊢; exact this
    | succ d ih =>
      intro i acc hi hl hp
      refine hs acc i (by omega) _ hl (ih (i + 1) _ (by omega) (by rw [List.length_set]; exact hl) fun j hj => ?_)
      rw [List.getElem?_set]
      by_cases e : i = j
      · subst e
        rw [if_pos rfl, if_pos (by omega), List.getElem?_map, List.getElem?_eq_getElem (by omega)]; rfl
      · rw [if_neg e]; exact hp j (by omega)
  exact g l.length 0 _ (by omega) List.length_replicate (fun j hj => absurd hj (by omega))
theorem ev_sz {α : Type} {F : Nat → Int → Int → Option Int} (l : List α) (B : α → Prop)
    (hs : ∀ (i : Nat) (hi : i < l.length) (left : Int), 0 ≤ left → left ≤ 1048576 →
      Ev (fun k => F k left (i : Int)) (-1) ∨ (∃ left', 0 ≤ left' ∧ left' ≤ left ∧ B l[i] ∧ ∀ t, Ev (fun k => F k left' ((i + 1 : Nat) : Int)) t → Ev (fun k => F k left (i : Int)) t))
    (he : ∀ left, Ev (fun k => F k left (l.length : Int)) left) (left : Int) (h0 : 0 ≤ left) (h1 : left ≤ 1048576) :
    Ev (fun k => F k left 0) (-1) ∨ ∃ t, 0 ≤ t ∧ t ≤ left ∧ Ev (fun k => F k left 0) t ∧ ∀ x ∈ l, B x := by
  have g : ∀ (d i : Nat) (left : Int), i + d = l.length → 0 ≤ left → left ≤ 1048576 → Ev (fun k => F k left (i : Int)) (-1) ∨ ∃ t, 0 ≤ t ∧ t ≤ left ∧ Ev (fun k => F k left (i : Int)) t ∧ ∀ j (hj : j < l.length), i ≤ j → B l[j] := by
    intro d
    induction d with
    | zero =>
      intro i left hi h0 h1
      obtain rfl : i = l.length := by omega
      exact .inr ⟨left, h0, Int.le_refl _, he left, fun j hj hij => absurd hj (by omega)⟩
    | succ d ih =>
      intro i left hi h0 h1
      rcases hs i (by omega) left h0 h1 with h | ⟨left', g0, g1, hB, hk⟩
      · exact .inl h
      · rcases ih (i + 1) left' (by omega) g0 (by omega) with h | ⟨t, t0, t1, ht, hb⟩
        · exact .inl (hk _ h)
        · refine .inr ⟨t, t0, by omega, hk _ ht, fun j hj hij => ?_⟩
          by_cases e : i = j
          · subst e; exact hB
          · exact hb j hj (by omega)
  rcases g l.length 0 left (by omega) h0 h1 with h | ⟨t, t0, t1, ht, hb⟩
  · exact .inl h
  · refine .inr ⟨t, t0, t1, ht, fun x hx => ?_⟩
    obtain ⟨j, hj, rfl⟩ := List.getElem_of_mem hx
    exact hb j hj (Nat.zero_le _)
theorem getD_at {α : Type} (l : List α) (z : α) (i : Nat) (h : i < l.length) : l.getD ((i : Int)).toNat z = l[i] := by
  rw [Int.toNat_natCast, List.getD_eq_getElem?_getD, List.getElem?_eq_getElem h]; rfl
theorem ev_all {α : Type} {F : Nat → Int → Option Bool} (l : List α) (p : α → Bool) (b : Bool)
    (hs : ∀ (i : Nat) (hi : i < l.length) (r : Bool), p l[i] = true → Ev (fun k => F k ((i + 1 : Nat) : Int)) r → Ev (fun k => F k (i : Int)) r)
    (hf : ∀ (i : Nat) (hi : i < l.length) (r : Bool), p l[i] = false → Ev (fun k => F k ((i + 1 : Nat) : Int)) r → Ev (fun k => F k (i : Int)) false)
    (he : Ev (fun k => F k (l.length : Int)) b) : Ev (fun k => F k 0) (l.all p && b) := by
  have h : ∀ d i : Nat, i + d = l.length → Ev (fun k => F k (i : Int)) ((l.drop i).all p && b) := by
    intro d
    induction d with
    | zero =>
      intro i hi; obtain rfl : i = l.length := by omega
      rw [List.drop_length]; exact he
    | succ d ih =>
      intro i hi
      have hlt : i < l.length := by omega
      rw [List.drop_eq_getElem_cons hlt, List.all_cons]
      cases hp : p l[i]
      · exact hf i hlt _ hp (ih (i + 1) (by omega))
      · exact hs i hlt _ hp (ih (i + 1) (by omega))
  exact h l.length 0 (by omega)

/-! whether the steps are as they may be: both programs' answers -/
def placeB (r c : Int) : Bool := decide (1 ≤ r ∧ r ≤ 1000 ∧ 1 ≤ c ∧ c ≤ 200)
theorem implPlace_is (r c : Int) : impl_place_good.f r c = some (placeB r c) := by
  unfold impl_place_good.f placeB
  by_cases h1 : 1 ≤ r <;> by_cases h2 : r ≤ 1000 <;> by_cases h3 : 1 ≤ c <;> by_cases h4 : c ≤ 200 <;> simp [h1, h2, h3, h4]
theorem specPlace_is (r c : Int) : spec_l3Place.f r c = some (placeB r c) := by
  unfold spec_l3Place.f spec_GoodRef.f placeB
  by_cases h1 : 1 ≤ r <;> by_cases h2 : r ≤ 1000 <;> by_cases h3 : 1 ≤ c <;> by_cases h4 : c ≤ 200 <;> simp [h1, h2, h3, h4]
def okC (c : S51) : Bool := placeB c.f0 c.f1
def rdS (xs : List S41) (i : Nat) : S41 := rd_T41 xs (i : Int)
def gsA (i : Nat) (s : S41) : Bool := decide (0 ≤ s.f0 ∧ s.f0 ≤ (i : Int)) && (if s.f0 = 0 then decide (1 ≤ s.f1.length ∧ s.f1.length ≤ 20) else decide (s.f1.length = 0))
def gs (i : Nat) (s : S41) : Bool := gsA i s && s.f1.all okC
def gsFrom (xs : List S41) : Nat → Nat → Bool
  | 0, _ => true
  | d + 1, i => gs i (rdS xs i) && gsFrom xs d (i + 1)
theorem rdC_at (ys : List S51) (q : Nat) (h : q < ys.length) : rd_T51 ys (q : Int) = ys[q] := by
  unfold rd_T51; rw [Int.toNat_natCast, List.getD_eq_getElem?_getD, List.getElem?_eq_getElem h]; rfl
theorem rdS_at (xs : List S41) (q : Nat) (h : q < xs.length) : rdS xs q = xs[q] := by
  unfold rdS rd_T41; rw [Int.toNat_natCast, List.getD_eq_getElem?_getD, List.getElem?_eq_getElem h]; rfl
theorem asSaid_l1 (xs : List S41) (ys : List S51) (i n : Int) (r : Bool) (B : Nat) (hy : ys.length ≤ 20) (h : ∀ k, B ≤ k → impl_asSaid.l0 k xs n (wrap64 (i + 1)) = some r) :
    ∀ (d q : Nat), q + d = ys.length → ∀ k, B + d + 1 ≤ k → impl_asSaid.l1 k xs n i ys (ys.length : Int) (q : Int) = some ((ys.drop q).all okC && r)
  | 0, q, hq, k, hk => by
    obtain ⟨k, rfl⟩ : ∃ m, k = m + 1 := ⟨k - 1, by omega⟩
    rw [impl_asSaid.l1, if_neg (by omega), h k (by omega), List.drop_eq_nil_of_le (by omega)]; rfl
  | d + 1, q, hq, k, hk => by
    obtain ⟨k, rfl⟩ : ∃ m, k = m + 1 := ⟨k - 1, by omega⟩
    have ih := asSaid_l1 xs ys i n r B hy h d (q + 1) (by omega) k (by omega)
    rw [impl_asSaid.l1, if_pos (by omega), if_pos (by omega), if_pos (by omega), implPlace_is, rdC_at ys q (by omega), wrap_id (x := (q : Int) + 1) (by omega) (by omega)]
    simp only [Option.bind_some]
    rw [List.drop_eq_getElem_cons (by omega : q < ys.length), List.all_cons]
    cases hc : placeB ys[q].f0 ys[q].f1
    · rw [if_neg (by simp), show okC ys[q] = false from hc]; rfl
    · rw [if_pos rfl, show okC ys[q] = true from hc, Bool.true_and]; exact ih
theorem asSaid_l0 (xs : List S41) (hn : xs.length ≤ 60) : ∀ (d i : Nat), i + d = xs.length → ∀ k, 23 * d + 1 ≤ k → impl_asSaid.l0 k xs (xs.length : Int) (i : Int) = some (gsFrom xs d i)
  | 0, i, hi, k, hk => by
    obtain ⟨k, rfl⟩ : ∃ m, k = m + 1 := ⟨k - 1, by omega⟩
    rw [impl_asSaid.l0, if_neg (by omega)]; rfl
  | d + 1, i, hi, k, hk => by
    obtain ⟨k, rfl⟩ : ∃ m, k = m + 1 + 1 := ⟨k - 2, by omega⟩
    have hw := wrap_id (x := (i : Int) + 1) (by omega) (by omega)
    have ih : ∀ k, 23 * d + 1 ≤ k → impl_asSaid.l0 k xs (xs.length : Int) (wrap64 ((i : Int) + 1)) = some (gsFrom xs d (i + 1)) := fun k hk => by
      rw [hw]; exact asSaid_l0 xs hn d (i + 1) (by omega) k hk
    have hin := fun hy => asSaid_l1 xs (rdS xs i).f1 (i : Int) (xs.length : Int) (gsFrom xs d (i + 1)) (23 * d + 1) hy ih (rdS xs i).f1.length 0 (by omega)
    have hgo : impl_asSaid.j1 (k + 1) xs (xs.length : Int) (i : Int) (!gsA i (rdS xs i)) (rdS xs i).f0 (rdS xs i).f1 = some (gsFrom xs (d + 1) i) := by
      unfold gsFrom gs
      rw [impl_asSaid.j1]
      cases hg : gsA i (rdS xs i)
      · simp
      · have hl : (rdS xs i).f1.length ≤ 20 := by
          unfold gsA at hg
          simp only [Bool.and_eq_true] at hg
          have h2 := hg.2
          split at h2
          · exact (of_decide_eq_true h2).2
          · have := of_decide_eq_true h2; omega
        rw [if_neg (by simp), show ((0 : Int)) = ((0 : Nat) : Int) from rfl, hin hl k (by omega), List.drop_zero, Bool.true_and]
    rw [impl_asSaid.l0, if_pos (by omega), if_pos (by omega), if_pos (by omega)]
    have e0 : rd_T41 xs (i : Int) = rdS xs i := rfl
    rw [e0]
    generalize rdS xs i = s at *
    have key : ∀ b, b = !gsA i s → impl_asSaid.j1 (k + 1) xs (xs.length : Int) (i : Int) b s.f0 s.f1 = some (gsFrom xs (d + 1) i) := fun b hb => by rw [hb]; exact hgo
    unfold gsA at key
    by_cases c0 : s.f0 = 0
    · rw [if_pos c0]
      by_cases c1 : (s.f1.length : Int) < 1
      · rw [if_pos c1]; exact key _ (by rw [if_pos c0, decide_eq_false (show ¬ (1 ≤ s.f1.length ∧ s.f1.length ≤ 20) by omega)]; simp)
      · rw [if_neg c1]
        by_cases c2 : (s.f1.length : Int) > 20
        · rw [if_pos c2]; exact key _ (by rw [if_pos c0, decide_eq_false (show ¬ (1 ≤ s.f1.length ∧ s.f1.length ≤ 20) by omega)]; simp)
        · rw [if_neg c2]; exact key _ (by rw [if_pos c0, decide_eq_true (show 1 ≤ s.f1.length ∧ s.f1.length ≤ 20 by omega), decide_eq_true (show 0 ≤ s.f0 ∧ s.f0 ≤ (i : Int) by omega)]; rfl)
    · rw [if_neg c0]
      by_cases c1 : (s.f1.length : Int) = 0
      · rw [if_pos c1]
        by_cases c2 : s.f0 < 1
        · rw [if_pos c2]; exact key _ (by rw [if_neg c0, decide_eq_false (show ¬ (0 ≤ s.f0 ∧ s.f0 ≤ (i : Int)) by omega)]; rfl)
        · rw [if_neg c2]; exact key _ (by
            rw [if_neg c0, decide_eq_true (show s.f1.length = 0 by omega), Bool.and_true]
            by_cases c3 : s.f0 > (i : Int)
            · rw [decide_eq_true c3, decide_eq_false (by omega)]; rfl
            · rw [decide_eq_false c3, decide_eq_true (by omega)]; rfl)
      · rw [if_neg c1]; exact key _ (by rw [if_neg c0, decide_eq_false (show ¬ s.f1.length = 0 by omega)]; simp)
def saidB (xs : List S41) : Bool := decide (xs.length ≤ 60) && gsFrom xs xs.length 0
theorem asSaid_is (xs : List S41) : impl_asSaid.f 10000 xs = some (saidB xs) := by
  unfold impl_asSaid.f saidB
  by_cases h : (xs.length : Int) > 60
  · rw [if_pos h, decide_eq_false (by omega)]; rfl
  · rw [if_neg h, decide_eq_true (by omega), Bool.true_and]
    exact asSaid_l0 xs (by omega) xs.length 0 (by omega) 10000 (by omega)
theorem specSaid_l1 (xs : List S41) (x0 : List S41) (ys : List S51) (i n : Int) (r : Bool) (hy : ys.length ≤ 1048576) (h : Ev (fun k => spec_l15Steps.l0 k x0 xs n (wrap64 (i + 1))) r) :
    ∀ (d q : Nat), q + d = ys.length → Ev (fun k => spec_l15Steps.l1 k x0 xs n i ys (ys.length : Int) (q : Int)) ((ys.drop q).all okC && r)
  | 0, q, hq => by
    rw [List.drop_eq_nil_of_le (by omega)]
    refine Ev.step (fun k => ?_) h
    rw [spec_l15Steps.l1, if_neg (by omega)]
  | d + 1, q, hq => by
    have ih := specSaid_l1 xs x0 ys i n r hy h d (q + 1) (by omega)
    rw [List.drop_eq_getElem_cons (by omega : q < ys.length), List.all_cons]
    cases hc : placeB ys[q].f0 ys[q].f1
    · refine Ev.step (f := fun _ => some false) (fun k => ?_) (by rw [show okC ys[q] = false from hc]; exact Ev.now _)
      rw [spec_l15Steps.l1, if_pos (by omega), if_pos (by omega), if_pos (by omega), specPlace_is, rdC_at ys q (by omega), hc]; rfl
    · rw [show okC ys[q] = true from hc, Bool.true_and]
      refine Ev.step (fun k => ?_) ih
      rw [spec_l15Steps.l1, if_pos (by omega), if_pos (by omega), if_pos (by omega), specPlace_is, rdC_at ys q (by omega), hc, wrap_id (x := (q : Int) + 1) (by omega) (by omega)]; rfl
theorem specSaid_l0 (xs : List S41) (hn : xs.length ≤ 1048576) (hy : ∀ i, i < xs.length → (rdS xs i).f1.length ≤ 1048576) : ∀ (d i : Nat), i + d = xs.length → Ev (fun k => spec_l15Steps.l0 k xs xs (xs.length : Int) (i : Int)) (gsFrom xs d i && decide (xs.length ≤ 60))
  | 0, i, hi => by
    refine Ev.step (f := fun _ => some (decide (xs.length ≤ 60))) (fun k => ?_) (Ev.now _)
    rw [spec_l15Steps.l0, if_neg (by omega)]
    congr 1; rw [decide_eq_decide]; omega
  | d + 1, i, hi => by
    have hw := wrap_id (x := (i : Int) + 1) (by omega) (by omega)
    have ih : Ev (fun k => spec_l15Steps.l0 k xs xs (xs.length : Int) (wrap64 ((i : Int) + 1))) (gsFrom xs d (i + 1) && decide (xs.length ≤ 60)) := by
      rw [hw]; exact specSaid_l0 xs hn hy d (i + 1) (by omega)
    have hin := specSaid_l1 xs xs (rdS xs i).f1 (i : Int) (xs.length : Int) _ (hy i (by omega)) ih (rdS xs i).f1.length 0 (by omega)
    have e0 : rd_T41 xs (i : Int) = rdS xs i := rfl
    unfold gsFrom gs
    generalize rdS xs i = s at *
    have hend : ∀ b, b = !gsA i s → Ev (fun k => spec_l15Steps.j2 k xs xs (xs.length : Int) (i : Int) b s.f0 s.f1) (gsA i s && s.f1.all okC && gsFrom xs d (i + 1) && decide (xs.length ≤ 60)) := fun b hb => by
      cases hg : gsA i s
      · rw [hg] at hb; subst hb
        exact Ev.step (f := fun _ => some false) (fun k => by rw [spec_l15Steps.j2]; rfl) (Ev.now _)
      · rw [hg] at hb; subst hb
        rw [Bool.true_and, Bool.and_assoc]
        rw [List.drop_zero] at hin
        exact Ev.step (fun k => by rw [spec_l15Steps.j2]; rfl) hin
    unfold gsA at hend ⊢
    by_cases c0 : s.f0 < 0
    · refine Ev.step (f := fun k => spec_l15Steps.j1 k xs xs (xs.length : Int) (i : Int) true s.f0 s.f1) (fun k => by rw [spec_l15Steps.l0, if_pos (by omega), if_pos (by omega), if_pos (by omega), e0, if_pos c0]) ?_
      rw [decide_eq_false (show ¬ (0 ≤ s.f0 ∧ s.f0 ≤ (i : Int)) by omega)]
      exact Ev.step (f := fun _ => some false) (fun k => by rw [spec_l15Steps.j1]; rfl) (Ev.now _)
    · by_cases c1 : s.f0 > (i : Int)
      · refine Ev.step (f := fun k => spec_l15Steps.j1 k xs xs (xs.length : Int) (i : Int) true s.f0 s.f1) (fun k => by rw [spec_l15Steps.l0, if_pos (by omega), if_pos (by omega), if_pos (by omega), e0, if_neg c0, decide_eq_true c1]) ?_
        rw [decide_eq_false (show ¬ (0 ≤ s.f0 ∧ s.f0 ≤ (i : Int)) by omega)]
        exact Ev.step (f := fun _ => some false) (fun k => by rw [spec_l15Steps.j1]; rfl) (Ev.now _)
      · refine Ev.step (f := fun k => spec_l15Steps.j1 k xs xs (xs.length : Int) (i : Int) false s.f0 s.f1) (fun k => by rw [spec_l15Steps.l0, if_pos (by omega), if_pos (by omega), if_pos (by omega), e0, if_neg c0, decide_eq_false c1]) ?_
        rw [decide_eq_true (show 0 ≤ s.f0 ∧ s.f0 ≤ (i : Int) by omega)] at hend ⊢
        by_cases c2 : s.f0 = 0
        · rw [if_pos c2] at hend ⊢
          by_cases c3 : (s.f1.length : Int) < 1
          · exact Ev.step (fun k => by rw [spec_l15Steps.j1, if_neg (by simp), if_neg (by omega), if_pos c2, if_pos c3]) (hend true (by rw [decide_eq_false (by omega)]; rfl))
          · by_cases c4 : (s.f1.length : Int) > 20
            · exact Ev.step (fun k => by rw [spec_l15Steps.j1, if_neg (by simp), if_neg (by omega), if_pos c2, if_neg c3, decide_eq_true c4]) (hend true (by rw [decide_eq_false (by omega)]; rfl))
            · exact Ev.step (fun k => by rw [spec_l15Steps.j1, if_neg (by simp), if_neg (by omega), if_pos c2, if_neg c3, decide_eq_false c4]) (hend false (by rw [decide_eq_true (by omega)]; rfl))
        · rw [if_neg c2] at hend ⊢
          by_cases c3 : (s.f1.length : Int) > 0
          · exact Ev.step (fun k => by rw [spec_l15Steps.j1, if_neg (by simp), if_pos (by omega), if_pos c3]) (hend true (by rw [decide_eq_false (by omega)]; rfl))
          · exact Ev.step (fun k => by rw [spec_l15Steps.j1, if_neg (by simp), if_pos (by omega), if_neg c3, if_neg c2]) (hend false (by rw [decide_eq_true (by omega)]; rfl))
theorem specSaid_is (xs : List S41) (hn : xs.length ≤ 1048576) (hy : ∀ i, i < xs.length → (rdS xs i).f1.length ≤ 1048576) : Ev (fun k => spec_l15Steps.f k xs) (saidB xs) := by
  have := specSaid_l0 xs hn hy xs.length 0 (by omega)
  unfold saidB; rw [Bool.and_comm]; exact this
theorem said_ok {xs : List S41} (h : saidB xs = true) : xs.length ≤ 60 ∧ ∀ i, i < xs.length → 0 ≤ (rdS xs i).f0 ∧ (rdS xs i).f0 ≤ (i : Int) := by
  unfold saidB at h
  simp only [Bool.and_eq_true, decide_eq_true_eq] at h
  refine ⟨h.1, ?_⟩
  have g : ∀ (d i : Nat), i + d = xs.length → gsFrom xs d i = true → ∀ j, i ≤ j → j < xs.length → 0 ≤ (rdS xs j).f0 ∧ (rdS xs j).f0 ≤ (j : Int) := by
    intro d
    induction d with
    | zero => intro i hi _ j h1 h2; omega
    | succ d ih =>
      intro i hi hg j h1 h2
      unfold gsFrom at hg
      simp only [Bool.and_eq_true] at hg
      by_cases e : i = j
      · subst e
        have := hg.1; unfold gs gsA at this
        simp only [Bool.and_eq_true, decide_eq_true_eq] at this
        exact this.1.1
      · exact ih (i + 1) (by omega) hg.2 j (by omega) h2
  exact fun i hi => g xs.length 0 (by omega) h.2 i (by omega) hi

/-! what stands: both programs' answers -/
theorem stepF_at (u num : Int) (f : Int → Bool) (x : Int) : stepF u num f x = (f x && !(decide (0 < u) && f num && decide (x = u))) := by
  unfold stepF
  by_cases h1 : 0 < u
  · cases h2 : f num
    · rw [if_neg (by simp)]; simp
    · rw [if_pos ⟨h1, rfl⟩]
      by_cases h3 : x = u
      · subst h3; simp [h1]
      · simp [h3]
  · rw [if_neg (fun h => h1 h.1)]; simp [h1]
def stt (xs : List S41) : Nat → (Int → Bool)
  | 0 => fun x => decide (1 ≤ x ∧ x ≤ (xs.length : Int))
  | d + 1 => stepF (undV xs (xs.length - d - 1)) (((xs.length - d - 1 : Nat) : Int) + 1) (stt xs d)
theorem standFrom_stt (xs : List S41) : ∀ (j d : Nat), j + d = xs.length → standFrom xs j (stt xs d) = stt xs xs.length
  | 0, d, h => by obtain rfl : d = xs.length := by omega
                  rfl
  | j + 1, d, h => by
    have ih := standFrom_stt xs j (d + 1) (by omega)
    have e : xs.length - d - 1 = j := by omega
    unfold standFrom
    rw [← ih]; unfold stt; rw [e]
    cases d <;> rfl
theorem stands_stt (xs : List S41) : stands xs = stt xs xs.length := standFrom_stt xs xs.length 0 (by omega)
theorem stt_keep1 (xs : List S41) (hu : ∀ i, i < xs.length → undV xs i ≤ (i : Int)) (d : Nat) (hd : d < xs.length) (x : Int) (hx : ((xs.length - d : Nat) : Int) ≤ x) : stt xs (d + 1) x = stt xs d x := by
  have := hu (xs.length - d - 1) (by omega)
  rw [stt, stepF_at, decide_eq_false (show ¬ x = undV xs (xs.length - d - 1) by omega)]; simp
theorem stt_keep (xs : List S41) (hu : ∀ i, i < xs.length → undV xs i ≤ (i : Int)) (d : Nat) (x : Int) (hx : ((xs.length - d : Nat) : Int) ≤ x) : ∀ t : Nat, d + t ≤ xs.length → stt xs (d + t) x = stt xs d x
  | 0, _ => rfl
  | t + 1, h => by rw [← Nat.add_assoc, stt_keep1 xs hu (d + t) (by omega) x (by omega)]; exact stt_keep xs hu d x hx t (by omega)
def noneFrom (xs : List S41) (st : Int → Bool) (x : Int) : Nat → Nat → Bool
  | 0, _ => true
  | d + 1, k => !(st ((k : Int) + 1) && decide (undV xs k = x)) && noneFrom xs st x d (k + 1)
theorem noneFrom_succ (xs : List S41) (st : Int → Bool) (x : Int) (d k : Nat) : noneFrom xs st x (d + 1) k = (!(st ((k : Int) + 1) && decide (undV xs k = x)) && noneFrom xs st x d (k + 1)) := rfl
theorem stt_none (xs : List S41) (hu : ∀ i, i < xs.length → undV xs i ≤ (i : Int)) (x : Int) (h1 : 1 ≤ x) (h2 : x ≤ (xs.length : Int)) : ∀ d : Nat, d ≤ xs.length → stt xs d x = noneFrom xs (stt xs xs.length) x d (xs.length - d)
  | 0, _ => decide_eq_true ⟨h1, h2⟩
  | d + 1, h => by
    have ih := stt_none xs hu x h1 h2 d (by omega)
    have e : xs.length - (d + 1) = xs.length - d - 1 := by omega
    have e1 : xs.length - d - 1 + 1 = xs.length - d := by omega
    have e2 : (((xs.length - d - 1 : Nat) : Int) + 1) = ((xs.length - d : Nat) : Int) := by omega
    have hk := stt_keep xs hu d (((xs.length - d : Nat) : Int)) (Int.le_refl _) (xs.length - d) (by omega)
    rw [show d + (xs.length - d) = xs.length from by omega] at hk
    rw [stt, stepF_at, ih, e, noneFrom_succ, e1, e2, hk, Bool.and_comm]
    congr 1
    by_cases hx : x = undV xs (xs.length - d - 1)
    · rw [decide_eq_true hx, decide_eq_true hx.symm, decide_eq_true (show 0 < undV xs (xs.length - d - 1) by omega)]; simp
    · rw [decide_eq_false hx, decide_eq_false (show ¬ undV xs (xs.length - d - 1) = x from fun q => hx q.symm)]; simp
theorem stands_rec (xs : List S41) (hu : ∀ i, i < xs.length → undV xs i ≤ (i : Int)) (i : Nat) (hi : i < xs.length) : stands xs ((i : Int) + 1) = noneFrom xs (stands xs) ((i : Int) + 1) (xs.length - i - 1) (i + 1) := by
  rw [stands_stt]
  have hk := stt_keep xs hu (xs.length - i - 1) ((i : Int) + 1) (by omega) (i + 1) (by omega)
  rw [show xs.length - i - 1 + (i + 1) = xs.length from by omega] at hk
  rw [hk, stt_none xs hu _ (by omega) (by omega) _ (by omega), show xs.length - (xs.length - i - 1) = i + 1 from by omega]
theorem rdB_at (l : List Bool) (q : Nat) (h : q < l.length) : rdOf false l (q : Int) = l[q] := by
  unfold rdOf; rw [Int.toNat_natCast, List.getD_eq_getElem?_getD, List.getElem?_eq_getElem h]; rfl
theorem specSt_l1 (xs : List S41) (hn : xs.length ≤ 1048576) (st : Int → Bool) (i : Nat) (hi : i < xs.length) (r : List Bool) : ∀ (d k : Nat) (out : List Bool) (b : Bool), k + d = xs.length → i < k → out.length = xs.length → (∀ j : Nat, k ≤ j → j < xs.length → out[j]? = some (st ((j : Int) + 1))) → out[i]? = some b →
    Ev (fun q => spec_l15Standing.l0 q xs (out.set i (b && noneFrom xs st ((i : Int) + 1) d k)) (wrap64 ((i : Int) - 1))) r → Ev (fun q => spec_l15Standing.l1 q xs out (i : Int) (k : Int)) r
  | 0, k, out, b, hk, hik, hl, ho, hb, h => by
    have e : out.set i (b && noneFrom xs st ((i : Int) + 1) 0 k) = out := by
      refine List.ext_getElem? fun j => ?_
      rw [List.getElem?_set]
      by_cases e : i = j
      · subst e; rw [if_pos rfl, if_pos (by omega), hb]; simp [noneFrom]
      · rw [if_neg e]
    rw [e] at h
    refine Ev.step (fun q => ?_) h
    rw [spec_l15Standing.l1, if_neg (by omega)]
  | d + 1, k, out, b, hk, hik, hl, ho, hb, h => by
    have hok : rdOf false out (k : Int) = st ((k : Int) + 1) := by
      have := ho k (Nat.le_refl _) (by omega)
      rw [List.getElem?_eq_getElem (by omega)] at this
      rw [rdB_at out k (by omega)]; exact Option.some.inj this
    have hw := wrap_id (x := (i : Int) + 1) (by omega) (by omega)
    have hw2 := wrap_id (x := (k : Int) + 1) (by omega) (by omega)
    have hun : (rd_T41 xs (k : Int)).f0 = undV xs k := rfl
    rw [noneFrom_succ] at h
    cases hs : st ((k : Int) + 1)
    · rw [hs] at h hok
      refine Ev.step (fun q => ?_) (specSt_l1 xs hn st i hi r d (k + 1) out b (by omega) (by omega) hl (fun j h1 h2 => ho j (by omega) h2) hb (by simpa using h))
      rw [spec_l15Standing.l1, if_pos (by omega), if_pos (by omega), if_pos (by omega), hok, if_neg (by simp), hw2]; rfl
    · rw [hs] at h hok
      by_cases hu : undV xs k = (i : Int) + 1
      · rw [decide_eq_true hu] at h
        refine Ev.step (fun q => ?_) (specSt_l1 xs hn st i hi r d (k + 1) (out.set i false) false (by omega) (by omega) (by rw [List.length_set]; exact hl) (fun j h1 h2 => by rw [List.getElem?_set, if_neg (by omega)]; exact ho j (by omega) h2) (by rw [List.getElem?_set, if_pos rfl, if_pos (by omega)]) (by simpa using h))
        rw [spec_l15Standing.l1, if_pos (by omega), if_pos (by omega), if_pos (by omega), hok, if_pos rfl, hun, hw, if_pos hu, if_pos (by omega), if_pos (by omega), hw2, Int.toNat_natCast]; rfl
      · rw [decide_eq_false hu] at h
        refine Ev.step (fun q => ?_) (specSt_l1 xs hn st i hi r d (k + 1) out b (by omega) (by omega) hl (fun j h1 h2 => ho j (by omega) h2) hb (by simpa using h))
        rw [spec_l15Standing.l1, if_pos (by omega), if_pos (by omega), if_pos (by omega), hok, if_pos rfl, hun, hw, if_neg hu, hw2]; rfl
def stL (st : Int → Bool) (n m : Nat) : List Bool := (List.range n).map fun (t : Nat) => if m ≤ t then st ((t : Int) + 1) else false
theorem stL_get (st : Int → Bool) (n m t : Nat) (h : t < n) : (stL st n m)[t]? = some (if m ≤ t then st ((t : Int) + 1) else false) := by
  unfold stL; rw [List.getElem?_map, List.getElem?_range h]; rfl
theorem stL_len (st : Int → Bool) (n m : Nat) : (stL st n m).length = n := by unfold stL; simp
theorem specSt_l0 (xs : List S41) (hn : xs.length ≤ 1048576) (hu : ∀ i, i < xs.length → undV xs i ≤ (i : Int)) : ∀ m : Nat, m ≤ xs.length → Ev (fun q => spec_l15Standing.l0 q xs (stL (stands xs) xs.length m) ((m : Int) - 1)) (stL (stands xs) xs.length 0)
  | 0, _ => by
    refine Ev.step (f := fun _ => some (stL (stands xs) xs.length 0)) (fun q => ?_) (Ev.now _)
    rw [spec_l15Standing.l0, if_neg (by omega)]
  | m + 1, h => by
    have ih := specSt_l0 xs hn hu m (by omega)
    have hlen := stL_len (stands xs) xs.length (m + 1)
    have hr := stands_rec xs hu m (by omega)
    have e : ((stL (stands xs) xs.length (m + 1)).set m true).set m (true && noneFrom xs (stands xs) ((m : Int) + 1) (xs.length - m - 1) (m + 1)) = stL (stands xs) xs.length m := by
      refine List.ext_getElem? fun j => ?_
      rw [List.set_set, List.getElem?_set]
      by_cases e : m = j
      · subst e; rw [if_pos rfl, if_pos (by omega), stL_get _ _ _ _ (by omega), if_pos (Nat.le_refl _), hr, Bool.true_and]
      · rw [if_neg e]
        by_cases hj : j < xs.length
        · rw [stL_get _ _ _ _ hj, stL_get _ _ _ _ hj]
          by_cases h1 : m ≤ j
          · rw [if_pos h1, if_pos (by omega)]
          · rw [if_neg h1, if_neg (by omega)]
        · rw [List.getElem?_eq_none (by rw [stL_len]; omega), List.getElem?_eq_none (by rw [stL_len]; omega)]
    have e0 : ((m + 1 : Nat) : Int) - 1 = (m : Int) := by omega
    rw [e0]
    have hin := specSt_l1 xs hn (stands xs) m (by omega) (stL (stands xs) xs.length 0) (xs.length - m - 1) (m + 1) ((stL (stands xs) xs.length (m + 1)).set m true) true (by omega) (by omega) (by rw [List.length_set]; exact hlen)
      (fun j h1 h2 => by rw [List.getElem?_set, if_neg (by omega), stL_get _ _ _ _ h2, if_pos h1]) (by rw [List.getElem?_set, if_pos rfl, if_pos (by omega)]) (by rw [e, wrap_id (x := (m : Int) - 1) (by omega) (by omega)]; exact ih)
    refine Ev.step (fun q => ?_) hin
    rw [spec_l15Standing.l0, if_pos (by omega), if_pos (by omega), if_pos (by omega), wrap_id (x := (m : Int) + 1) (by omega) (by omega), Int.toNat_natCast]; rfl
theorem specSt_is (xs : List S41) (hn : xs.length ≤ 1048576) (hu : ∀ i, i < xs.length → undV xs i ≤ (i : Int)) : Ev (fun q => spec_l15Standing.f q xs) (stL (stands xs) xs.length 0) := by
  have h := specSt_l0 xs hn hu xs.length (Nat.le_refl _)
  have e : stL (stands xs) xs.length xs.length = List.replicate xs.length false := by
    refine List.ext_getElem? fun j => ?_
    by_cases hj : j < xs.length
    · rw [stL_get _ _ _ _ hj, if_neg (by omega), List.getElem?_replicate, if_pos hj]
    · rw [List.getElem?_eq_none (by rw [stL_len]; omega), List.getElem?_eq_none (by simp; omega)]
  rw [e] at h
  refine Ev.congr (fun q => ?_) h
  unfold spec_l15Standing.f
  rw [if_pos (by omega), if_pos (by omega), wrap_id (x := (xs.length : Int) - 1) (by omega) (by omega), Int.toNat_natCast]

theorem atLC (l : List S64) (i : Nat) (h : i < l.length) : rd_T64 l (i : Int) = l[i] := getD_at l _ i h
theorem atLS (l : List S37) (i : Nat) (h : i < l.length) : rd_T37 l (i : Int) = l[i] := getD_at l _ i h
theorem atIC (l : List S51) (i : Nat) (h : i < l.length) : rd_T51 l (i : Int) = l[i] := getD_at l _ i h
theorem atIS (l : List S41) (i : Nat) (h : i < l.length) : rd_T41 l (i : Int) = l[i] := getD_at l _ i h
def convC (x : S64) : S51 := ⟨x.f0, x.f1, x.f2⟩
def convS (x : S37) : S41 := ⟨x.f0, x.f1.map convC⟩
theorem toChangeS_ev (l : List S64) (hl : l.length ≤ 1048576) : Ev (fun k => laws_toChangeS.f k l) (l.map convC) := by
  unfold laws_toChangeS.f
  refine Ev.congr (f := fun k => laws_toChangeS.l0 k l (List.replicate l.length z51) 0) (fun k => by rw [if_pos (by omega), if_pos (by omega), Int.toNat_natCast]) ?_
  refine ev_to (F := fun k acc i => laws_toChangeS.l0 k l acc i) l convC z51 ?_ ?_
  · intro acc i hi r hacc h
    refine Ev.step (fun k => ?_) h
    simp only [laws_toChangeS.l0]
    rw [if_pos (by omega), if_pos (by omega), atLC l i hi]
    simp only [laws_toChange.f, Option.bind_some]
    rw [if_pos (by omega), wrap_id (x := (i : Int) + 1) (by omega) (by omega), Int.toNat_natCast]
    rfl
  · intro acc
    refine Ev.step (fun k => ?_) (Ev.now acc)
    simp only [laws_toChangeS.l0]
    rw [if_neg (by omega)]
theorem toStepS_ev (l : List S37) (hl : l.length ≤ 1048576) (hB : ∀ x ∈ l, x.f1.length ≤ 1048576) : Ev (fun k => laws_toStepS.f k l) (l.map convS) := by
  unfold laws_toStepS.f
  refine Ev.congr (f := fun k => laws_toStepS.l0 k l (List.replicate l.length z41) 0) (fun k => by rw [if_pos (by omega), if_pos (by omega), Int.toNat_natCast]) ?_
  refine ev_to (F := fun k acc i => laws_toStepS.l0 k l acc i) l convS z41 ?_ ?_
  · intro acc i hi r hacc h
    refine Ev.step (f := fun k => (laws_toChangeS.f k (l[i]).f1).bind fun t => laws_toStepS.l0 k l (acc.set i (⟨(l[i]).f0, t⟩ : S41)) ((i + 1 : Nat) : Int)) (fun k => ?_) ?_
    · simp only [laws_toStepS.l0]
      rw [if_pos (by omega), if_pos (by omega), atLS l i hi]
      simp only [laws_toStep.f, Option.bind_some]
      rw [wrap_id (x := (i : Int) + 1) (by omega) (by omega), Int.toNat_natCast]
      cases laws_toChangeS.f k (l[i]).f1 with
      | none => rfl
      | some t => simp only [Option.bind_some]; rw [if_pos (by omega)]; rfl
    · exact Ev.bind (toChangeS_ev _ (hB _ (List.getElem_mem hi))) h
  · intro acc
    refine Ev.step (fun k => ?_) (Ev.now acc)
    simp only [laws_toStepS.l0]
    rw [if_neg (by omega)]
theorem eqChange_is (r c : Int) (s : ByteArray) : laws_eqChange.f r c s r c s = some true := by unfold laws_eqChange.f; simp
theorem eqChangeS_ev (l : List S51) (hl : l.length ≤ 1048576) : Ev (fun k => laws_eqChangeS.f k l l) true := by
  unfold laws_eqChangeS.f
  refine Ev.congr (f := fun k => laws_eqChangeS.l0 k l l 0) (fun k => by rw [if_pos rfl]) ?_
  refine ev_down (F := fun k i => laws_eqChangeS.l0 k l l i) l.length ?_ ?_
  · intro i hi h
    refine Ev.step (fun k => ?_) h
    simp only [laws_eqChangeS.l0]
    rw [if_pos (by omega), if_pos (by omega), if_pos (by omega), eqChange_is]
    simp only [Option.bind_some, if_true]
    rw [wrap_id (x := (i : Int) + 1) (by omega) (by omega)]; rfl
  · refine Ev.step (fun k => ?_) (Ev.now true)
    simp only [laws_eqChangeS.l0]
    rw [if_neg (by omega)]
theorem eqStepS_ev (l : List S41) (hl : l.length ≤ 1048576) (hB : ∀ x ∈ l, x.f1.length ≤ 1048576) : Ev (fun k => laws_eqStepS.f k l l) true := by
  unfold laws_eqStepS.f
  refine Ev.congr (f := fun k => laws_eqStepS.l0 k l l 0) (fun k => by rw [if_pos rfl]) ?_
  refine ev_down (F := fun k i => laws_eqStepS.l0 k l l i) l.length ?_ ?_
  · intro i hi h
    refine Ev.step (f := fun k => (laws_eqChangeS.f k (l[i]).f1 (l[i]).f1).bind fun t => if t = true then laws_eqStepS.l0 k l l ((i + 1 : Nat) : Int) else some false) (fun k => ?_) ?_
    · simp only [laws_eqStepS.l0]
      rw [if_pos (by omega), if_pos (by omega), if_pos (by omega), atIS l i hi]
      simp only [laws_eqStep.f, if_true]
      rw [wrap_id (x := (i : Int) + 1) (by omega) (by omega)]
      cases laws_eqChangeS.f k (l[i]).f1 (l[i]).f1 with
      | none => rfl
      | some t => cases t <;> rfl
    · refine Ev.bind (eqChangeS_ev _ (hB _ (List.getElem_mem hi))) ?_
      exact Ev.congr (fun k => by rw [if_pos rfl]) h
  · refine Ev.step (fun k => ?_) (Ev.now true)
    simp only [laws_eqStepS.l0]
    rw [if_neg (by omega)]
theorem szChangeS_ev (l : List S64) (hq : QL Q64 l) (left : Int) (h0 : 0 ≤ left) (h1 : left ≤ 1048576) :
    Ev (fun k => laws_szChangeS.f k l left) (-1) ∨ ∃ t, 0 ≤ t ∧ t ≤ left ∧ Ev (fun k => laws_szChangeS.f k l left) t ∧ l.length ≤ 1048576 := by
  have hl := hq.1
  unfold laws_szChangeS.f
  rw [wrap_id (x := left - (l.length : Int)) (by omega) (by omega)]
  by_cases h : left - (l.length : Int) < 0
  · exact .inl (Ev.congr (f := fun _ => some (-1)) (fun k => by rw [if_pos h]) (Ev.now _))
  · have e : ∀ k, (if left - (l.length : Int) < 0 then some (-1) else laws_szChangeS.l0 k l (left - (l.length : Int)) 0) = laws_szChangeS.l0 k l (left - (l.length : Int)) 0 := fun k => by rw [if_neg h]
    have := ev_sz (F := fun k left i => laws_szChangeS.l0 k l left i) l (fun _ => True) ?_ ?_ (left - (l.length : Int)) (by omega) (by omega)
    · rcases this with h1 | ⟨t, t0, t1, ht, hb⟩
      · exact .inl (Ev.congr e h1)
      · exact .inr ⟨t, t0, by omega, Ev.congr e ht, by omega⟩
    · intro i hi left h0 h1
      obtain ⟨_, _, q2⟩ := hq.2 _ (List.getElem_mem hi)
      have hs : (l[i]).f2.size ≤ maxLen := q2
      simp only [maxLen] at hs
      have hsz : laws_szChange.f (l[i]).f0 (l[i]).f1 (l[i]).f2 left = some (if left - ((l[i]).f2.size : Int) < 0 then -1 else left - ((l[i]).f2.size : Int)) := by
        unfold laws_szChange.f; rw [wrap_id (x := left - ((l[i]).f2.size : Int)) (by omega) (by omega)]; split <;> rfl
      by_cases c : left - ((l[i]).f2.size : Int) < 0
      · refine .inl (Ev.step (f := fun _ => some (-1)) (fun k => ?_) (Ev.now _))
        simp only [laws_szChangeS.l0]
        rw [if_pos (by omega), if_pos (by omega), atLC l i hi, hsz, if_pos c]; simp
      · refine .inr ⟨left - ((l[i]).f2.size : Int), by omega, by omega, trivial, fun t ht => Ev.step (fun k => ?_) ht⟩
        simp only [laws_szChangeS.l0]
        rw [if_pos (by omega), if_pos (by omega), atLC l i hi, hsz, if_neg c]; simp only [Option.bind_some]
        rw [if_neg c, wrap_id (x := (i : Int) + 1) (by omega) (by omega)]; rfl
    · intro left
      refine Ev.step (fun k => ?_) (Ev.now left)
      simp only [laws_szChangeS.l0]
      rw [if_neg (by omega)]
theorem szStepS_ev (l : List S37) (hq : QL Q37 l) (left : Int) (h0 : 0 ≤ left) (h1 : left ≤ 1048576) :
    Ev (fun k => laws_szStepS.f k l left) (-1) ∨ ∃ t, 0 ≤ t ∧ t ≤ left ∧ Ev (fun k => laws_szStepS.f k l left) t ∧ l.length ≤ 1048576 ∧ ∀ x ∈ l, x.f1.length ≤ 1048576 := by
  have hl := hq.1
  unfold laws_szStepS.f
  rw [wrap_id (x := left - (l.length : Int)) (by omega) (by omega)]
  by_cases h : left - (l.length : Int) < 0
  · exact .inl (Ev.congr (f := fun _ => some (-1)) (fun k => by rw [if_pos h]) (Ev.now _))
  · have e : ∀ k, (if left - (l.length : Int) < 0 then some (-1) else laws_szStepS.l0 k l (left - (l.length : Int)) 0) = laws_szStepS.l0 k l (left - (l.length : Int)) 0 := fun k => by rw [if_neg h]
    have := ev_sz (F := fun k left i => laws_szStepS.l0 k l left i) l (fun x => x.f1.length ≤ 1048576) ?_ ?_ (left - (l.length : Int)) (by omega) (by omega)
    · rcases this with h1 | ⟨t, t0, t1, ht, hb⟩
      · exact .inl (Ev.congr e h1)
      · exact .inr ⟨t, t0, by omega, Ev.congr e ht, by omega, hb⟩
    · intro i hi left h0 h1
      obtain ⟨_, q1⟩ := hq.2 _ (List.getElem_mem hi)
      have hstep : ∀ k, laws_szStepS.l0 (k + 1) l left (i : Int) = (laws_szChangeS.f k (l[i]).f1 left).bind fun t => if t < 0 then some (-1) else laws_szStepS.l0 k l t ((i + 1 : Nat) : Int) := fun k => by
        simp only [laws_szStepS.l0]
        rw [if_pos (by omega), if_pos (by omega), atLS l i hi, wrap_id (x := (i : Int) + 1) (by omega) (by omega)]
        simp only [laws_szStep.f]
        cases laws_szChangeS.f k (l[i]).f1 left with
        | none => rfl
        | some t =>
          simp only [Option.bind_some]
          by_cases c : t < 0
          · rw [if_pos c, if_pos c]; simp
          · rw [if_neg c, if_neg c]; simp only [Option.bind_some]; rw [if_neg c]; rfl
      rcases szChangeS_ev (l[i]).f1 q1 left h0 h1 with h2 | ⟨t, t0, t1, ht, hb⟩
      · exact .inl (Ev.step hstep (Ev.bind h2 (Ev.congr (f := fun _ => some (-1)) (fun k => by rw [if_pos (by omega)]) (Ev.now _))))
      · exact .inr ⟨t, t0, t1, hb, fun r hr => Ev.step hstep (Ev.bind ht (Ev.congr (fun k => by rw [if_neg (by omega)]) hr))⟩
    · intro left
      refine Ev.step (fun k => ?_) (Ev.now left)
      simp only [laws_szStepS.l0]
      rw [if_neg (by omega)]
theorem rdS_mem (xs : List S41) (hB : ∀ x ∈ xs, x.f1.length ≤ 1048576) : ∀ i, i < xs.length → (rdS xs i).f1.length ≤ 1048576 := fun i hi => by rw [rdS_at xs i hi]; exact hB _ (List.getElem_mem hi)
theorem map_convS_mem (l : List S37) (hB : ∀ x ∈ l, x.f1.length ≤ 1048576) : ∀ x ∈ l.map convS, x.f1.length ≤ 1048576 := fun x hx => by
  obtain ⟨y, hy, rfl⟩ := List.mem_map.1 hx
  show (y.f1.map convC).length ≤ 1048576
  rw [List.length_map]; exact hB y hy

/-- What is marked is held: a loop that writes the marks, and one that looks at them. -/
theorem ev_marks2 {β : Type} {F : Nat → List β → Int → Int → Option (Int × List β)} {H : Nat → List β → Int → Int → Option Int} (mk : Int → β) (s : Int) (hs : 0 ≤ s ∧ s ≤ 50) (n : Nat) (hn : n ≤ 2097152)
    (hF : ∀ (l : List β) (m : Int) (i : Nat) (r : Int × List β), l.length = n → i < n → 1 ≤ m → m ≤ 200000000 → Ev (fun k => F k (l.set i (mk m)) (m + s) ((i + 1 : Nat) : Int)) r → Ev (fun k => F k l m (i : Int)) r)
    (eF : ∀ (l : List β) (m : Int), l.length = n → Ev (fun k => F k l m (n : Int)) (m, l))
    (hH : ∀ (l : List β) (m : Int) (i : Nat) (r : Int), l.length = n → i < n → l[i]? = some (mk m) → 1 ≤ m → m ≤ 200000000 → Ev (fun k => H k l (m + s) ((i + 1 : Nat) : Int)) r → Ev (fun k => H k l m (i : Int)) r)
    (eH : ∀ (l : List β) (m : Int), l.length = n → Ev (fun k => H k l m (n : Int)) m) (l : List β) (hl : l.length = n) :
    ∃ m l', l'.length = n ∧ Ev (fun k => F k l 1 0) (m, l') ∧ Ev (fun k => H k l' 1 0) m ∧ 0 ≤ m := by
  have hb : ∀ i : Nat, i ≤ n → 1 ≤ 1 + s * i ∧ 1 + s * i ≤ 200000000 := fun i hi => by
    have h1 : 0 ≤ s * (i : Int) := Int.mul_nonneg hs.1 (by omega)
    have h2 : s * (i : Int) ≤ 50 * 2097152 := Int.mul_le_mul hs.2 (by omega) (by omega) (by omega)
    omega
  have hstep : ∀ i : Nat, 1 + s * ((i + 1 : Nat) : Int) = 1 + s * (i : Int) + s := fun i => by rw [Int.natCast_add, Int.mul_add]; simp; omega
  have g : ∀ (d i : Nat) (l : List β), i + d = n → l.length = n → (∀ j : Nat, j < i → l[j]? = some (mk (1 + s * j))) → ∃ l', l'.length = n ∧ (∀ j : Nat, j < n → l'[j]? = some (mk (1 + s * j))) ∧ Ev (fun k => F k l (1 + s * i) (i : Int)) (1 + s * n, l') := by
    intro d
    induction d with
    | zero =>
      intro i l hi hl hp
      obtain rfl : i = n := by omega
      exact ⟨l, hl, hp, eF l _ hl⟩
    | succ d ih =>
      intro i l hi hl hp
      obtain ⟨l', h1, h2, h3⟩ := ih (i + 1) (l.set i (mk (1 + s * i))) (by omega) (by rw [List.length_set]; exact hl) (fun j hj => by
        rw [List.getElem?_set]
        by_cases e : i = j
        · subst e; rw [if_pos rfl, if_pos (by omega)]
        · rw [if_neg e]; exact hp j (by omega))
      rw [hstep] at h3
      exact ⟨l', h1, h2, hF l _ i _ hl (by omega) (hb i (by omega)).1 (hb i (by omega)).2 h3⟩
  obtain ⟨l', h1, h2, h3⟩ := g n 0 l (by omega) hl (fun j hj => by omega)
  have k : ∀ (d i : Nat), i + d = n → Ev (fun k => H k l' (1 + s * i) (i : Int)) (1 + s * n) := by
    intro d
    induction d with
    | zero =>
      intro i hi
      obtain rfl : i = n := by omega
      exact eH l' _ h1
    | succ d ih =>
      intro i hi
      have := ih (i + 1) (by omega)
      rw [hstep] at this
      exact hH l' _ i _ h1 (by omega) (h2 i (by omega)) (hb i (by omega)).1 (hb i (by omega)).2 this
  have k0 := k n 0 (by omega)
  simp only [Int.natCast_zero, Int.mul_zero, Int.add_zero] at h3 k0
  exact ⟨1 + s * n, l', h1, h3, k0, by have := hb n (Nat.le_refl _); omega⟩

theorem histOk_of {xs : List S41} (h : saidB xs = true) : HistOk xs := said_ok h
theorem stL_is (f : Int → Bool) (n : Nat) : stL f n 0 = standL f n := by
  unfold stL standL
  refine List.map_congr_left fun t _ => ?_
  rw [if_pos (Nat.zero_le _)]
theorem spec_ends (xs : List S41) (hn : xs.length ≤ 1048576) (hB : ∀ x ∈ xs, x.f1.length ≤ 1048576) : ∃ r, Ev (fun k => spec_Standing.f k xs) r ∧ impl_Standing.f xs = some r ∧ r.length ≤ 1048576 := by
  have hs := specSaid_is xs hn (rdS_mem xs hB)
  unfold impl_Standing.f spec_Standing.f
  rw [asSaid_is]
  cases h : saidB xs with
  | false =>
    rw [h] at hs
    exact ⟨[], Ev.bind hs (Ev.congr (f := fun _ => some []) (fun k => by rw [if_neg (by simp)]) (Ev.now _)), rfl, by simp⟩
  | true =>
    rw [h] at hs
    have hh := histOk_of h
    have hst := specSt_is xs hn (fun i hi => (hh.2 i hi).2)
    rw [stL_is] at hst
    refine ⟨standL (stands xs) xs.length, Ev.bind hs (Ev.congr (fun k => by rw [if_pos rfl]) (Ev.bind hst (Ev.now _))), ?_, by rw [standL_len]; exact hn⟩
    simp only [Option.bind_some, if_true]
    rw [if_pos (show histOkB xs = true from decide_eq_true hh)]
theorem eqBoolS_ev (l : List Bool) (hl : l.length ≤ 1048576) : Ev (fun k => laws_eqBoolS.f k l l) true := by
  unfold laws_eqBoolS.f
  refine Ev.congr (f := fun k => laws_eqBoolS.l0 k l l 0) (fun k => by rw [if_pos rfl]) ?_
  have g : ∀ (d i : Nat), i + d = l.length → Ev (fun k => laws_eqBoolS.l0 k l l (i : Int)) true := by
    intro d
    induction d with
    | zero =>
      intro i hi
      refine Ev.step (f := fun _ => some true) (fun k => ?_) (Ev.now _)
      rw [laws_eqBoolS.l0, if_neg (by omega)]
    | succ d ih =>
      intro i hi
      refine Ev.step (fun k => ?_) (ih (i + 1) (by omega))
      rw [laws_eqBoolS.l0, if_pos (by omega), if_pos (by omega), if_pos (by omega), bne_self_eq_false, if_neg (by simp), wrap_id (x := (i : Int) + 1) (by omega) (by omega)]; rfl
  exact g l.length 0 (by omega)
theorem boolMarks (l : List Bool) (hl : l.length ≤ 1048576) : ∃ m l', Ev (fun k => laws_markBoolS.f k l 1) (m, l') ∧ Ev (fun k => laws_heldBoolS.f k l' 1) m ∧ 0 ≤ m := by
  have hx := ev_marks2 (F := fun k l m i => laws_markBoolS.l0 k l m i) (H := fun k l m i => laws_heldBoolS.l0 k l m i) (fun m => (Int.tmod m 3 == 0)) 1 (by omega) l.length (by omega) ?_ ?_ ?_ ?_ l rfl
  · obtain ⟨m, l', _, h1, h2, h3⟩ := hx
    exact ⟨m, l', h1, h2, h3⟩
  · intro l m i r hn hi h1 h2 h
    refine Ev.step (fun k => ?_) h
    rw [laws_markBoolS.l0, if_pos (by omega), if_pos (by omega), wrap_id (x := m + 1) (by omega) (by omega), wrap_id (x := (i : Int) + 1) (by omega) (by omega), Int.toNat_natCast]; rfl
  · intro l m hn
    refine Ev.step (f := fun _ => some (m, l)) (fun k => ?_) (Ev.now _)
    rw [laws_markBoolS.l0, if_neg (by omega)]
  · intro l m i r hn hi hg h1 h2 h
    refine Ev.step (fun k => ?_) h
    have e : rdOf false l (i : Int) = (Int.tmod m 3 == 0) := by
      unfold rdOf; rw [Int.toNat_natCast, List.getD_eq_getElem?_getD, hg]; rfl
    rw [laws_heldBoolS.l0, if_pos (by omega), if_pos (by omega), e, bne_self_eq_false, if_neg (by simp), wrap_id (x := m + 1) (by omega) (by omega), wrap_id (x := (i : Int) + 1) (by omega) (by omega)]; rfl
  · intro l m hn
    refine Ev.step (f := fun _ => some m) (fun k => ?_) (Ev.now _)
    rw [laws_heldBoolS.l0, if_neg (by omega)]
theorem markSum_le : ∀ (xs : List S41), (∀ x ∈ xs, x.f1.length ≤ 1048576) → markSum xs ≤ 3145729 * (xs.length : Int)
  | [], _ => by show (0 : Int) ≤ _; simp
  | s :: xs, h => by
    have h1 := h s (by simp)
    have h2 := markSum_le xs (fun x hx => h x (by simp [hx]))
    rw [markSum_cons, List.length_cons]; omega
theorem FnExactStanding : ∀ (l0 : (List S37)), QL Q37 l0 → ∃ k, laws_FnExactStanding.f k l0 = some true := by
  intro l hq
  refine Ev.rounds ?_
  unfold laws_FnExactStanding.f
  rcases szStepS_ev l hq 1048576 (by omega) (by omega) with h | ⟨t, t0, _, ht, hl, hB⟩
  · exact Ev.bind h (Ev.congr (f := fun _ => some true) (fun k => by rw [if_pos (by omega)]) (Ev.now _))
  · have hto := toStepS_ev l hl hB
    have hlm : (l.map convS).length ≤ 1048576 := by rw [List.length_map]; exact hl
    have hBm := map_convS_mem l hB
    obtain ⟨r, hr, hi, hrl⟩ := spec_ends (l.map convS) hlm hBm
    have heq := eqStepS_ev (l.map convS) hlm hBm
    have heb := eqBoolS_ev r hrl
    obtain ⟨m, r', hm, hh, hm0⟩ := boolMarks r hrl
    have hnn := markSum_nn (l.map convS)
    have hms := markSum_le (l.map convS) hBm
    have hmk : laws_markStepS.f (l.map convS) 1 = some (1 + markSum (l.map convS)) := by unfold laws_markStepS.f; rw [if_pos ⟨by omega, by omega⟩]
    have hj : Ev (fun k => laws_FnExactStanding.j0 k l r r false) true := by
      refine Ev.step (fun k => by rw [laws_FnExactStanding.j0, if_neg (by simp)]) (Ev.bind hm (Ev.bind hh ?_))
      refine Ev.congr (fun k => by rw [if_neg (by omega), if_pos rfl]) (Ev.bind hto ?_)
      refine Ev.congr (fun k => by rw [hi]; simp only [Option.bind_some]; rfl) (Ev.bind heb ?_)
      refine Ev.congr (fun k => by rw [if_pos rfl]) (Ev.bind hh ?_)
      exact Ev.congr (f := fun _ => some true) (fun k => by rw [if_neg (by omega), if_pos rfl]) (Ev.now _)
    refine Ev.bind ht (Ev.congr (fun k => by rw [if_neg (by omega)]) ?_)
    refine Ev.bind hto (Ev.bind hr (Ev.bind hto ?_))
    refine Ev.congr (fun k => by rw [hi]; simp only [Option.bind_some]; rfl) (Ev.bind heb ?_)
    refine Ev.congr (fun k => by rw [if_pos rfl]) (Ev.bind hto ?_)
    have hx : Ev (fun k => (laws_eqBoolS.f k r r).bind fun t205 => laws_FnExactStanding.j0 k l r r (!t205)) true := Ev.bind heb (Ev.congr (fun k => by rw [Bool.not_true]) hj)
    refine Ev.bind heq (Ev.congr (fun k => ?_) hx)
    rw [if_pos rfl, hmk]; simp only [Option.bind_some]; rw [if_neg (by omega)]

end Go.Proofs.Ytffamggcjijobaa.Pure
