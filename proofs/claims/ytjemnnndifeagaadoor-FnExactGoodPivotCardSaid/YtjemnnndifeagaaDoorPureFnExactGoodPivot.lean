/- The plain law of FnExactGoodPivot: what the program computes is what the reference computes, for every input (no further condition). -/
import Derived.Test.YtjemnnndifeagaaDoorMFnExactGoodPivota12
import Derived.Test.YtjemnnndifeagaaDoorRFnExactGoodPivot
namespace Go.Proofs.YtjemnnndifeagaaDoor.Pure
open Go.RowKit Go.Proofs.YtjemnnndifeagaaDoor.PFnExactGoodPivot Go.Proofs.YtjemnnndifeagaaDoorW.PrintWords Go.Proofs.YtjemnnndifeagaaDoorW.PrintLast

set_option linter.unusedVariables false
set_option linter.unusedSimpArgs false
/-! plain facts on whole numbers -/
theorem wrap_id {x : Int} (h1 : -9223372036854775808 ≤ x) (h2 : x ≤ 9223372036854775807) : wrap64 x = x := by
  unfold wrap64; omega
theorem td_pos {a b : Int} (h : 0 ≤ a) : a.tdiv b = a / b := Int.tdiv_eq_ediv_of_nonneg h
theorem td_neg {a b : Int} (h : a ≤ 0) : a.tdiv b = -((-a) / b) := by
  rw [← Int.tdiv_eq_ediv_of_nonneg (by omega : 0 ≤ -a), Int.neg_tdiv]; omega
theorem tm_pos {a b : Int} (h : 0 ≤ a) : a.tmod b = a % b := Int.tmod_eq_emod_of_nonneg h
theorem tm_neg {a b : Int} (h : a ≤ 0) : a.tmod b = -((-a) % b) := by
  rw [← Int.tmod_eq_emod_of_nonneg (by omega : 0 ≤ -a), Int.neg_tmod]; omega
theorem tm_zero (a b : Int) : a.tmod b = 0 ↔ a % b = 0 := by
  rw [← Int.dvd_iff_tmod_eq_zero, ← Int.dvd_iff_emod_eq_zero]
theorem ediv_is {a b q r : Int} (hb : 0 < b) (h : a = b * q + r) (h0 : 0 ≤ r) (h1 : r < b) : a / b = q := by
  rw [h, Int.add_comm, Int.add_mul_ediv_left _ _ (by omega), Int.ediv_eq_zero_of_lt h0 h1]; omega
theorem ediv_neg_of {a b : Int} (hb : 0 < b) (h : a.tmod b = 0) : a.tdiv b = a / b := by
  have e := Int.mul_tdiv_add_tmod a b
  rw [h] at e
  exact (ediv_is hb (q := a.tdiv b) (r := 0) (by omega) (by omega) hb).symm
theorem ediv_floor {a b : Int} (hb : 0 < b) (ha : a < 0) (h : a.tmod b ≠ 0) : a.tdiv b - 1 = a / b := by
  have e := Int.mul_tdiv_add_tmod a b
  have hm := tm_neg (a := a) (b := b) (by omega)
  have h0 := Int.emod_nonneg (-a) (by omega : b ≠ 0)
  have h1 := Int.emod_lt_of_pos (-a) hb
  refine (ediv_is hb (q := a.tdiv b - 1) (r := a.tmod b + b) ?_ (by omega) (by omega)).symm
  rw [Int.mul_sub]; omega
/-- The floor, as both programs reckon it. -/
theorem floor_is {a b : Int} (hb : 0 < b) (h1 : -4611686018427387904 ≤ a) (h2 : a ≤ 4611686018427387904) :
    (if b = 0 then (none) else (if (Int.tmod a b) = 0 then (some (wrap64 (Int.tdiv a b))) else (if ((decide (a < 0)) != (decide (b < 0))) = true then (some (wrap64 ((wrap64 (Int.tdiv a b)) - 1))) else (some (wrap64 (Int.tdiv a b)))))) = some (a / b) := by
  have hle : a / b ≤ 4611686018427387904 := by
    by_cases h : 0 ≤ a
    · exact Int.le_trans (Int.ediv_le_self b h) h2
    · have := Int.ediv_neg_of_neg_of_pos (by omega : a < 0) hb; omega
  have hge : -4611686018427387904 ≤ a / b := by
    by_cases h : 0 ≤ a
    · have := Int.ediv_nonneg h (by omega : 0 ≤ b); omega
    · exact Int.le_ediv_of_mul_le hb (by have : -4611686018427387904 * b ≤ -4611686018427387904 * 1 := by omega
                                         omega)
  rw [if_neg (by omega : ¬ b = 0)]
  by_cases hm : Int.tmod a b = 0
  · rw [if_pos hm, ediv_neg_of hb hm, wrap_id (by omega) (by omega)]
  · rw [if_neg hm]
    by_cases ha : a < 0
    · have e := ediv_floor hb ha hm
      rw [if_pos (by simp [ha]; omega), wrap_id (x := Int.tdiv a b) (by omega) (by omega), e, wrap_id (by omega) (by omega)]
    · rw [if_neg (by simp [ha]; omega), td_pos (by omega), wrap_id (by omega) (by omega)]

/-! loops, by what they come to in the end ('Ev') -/
theorem ev_down {ρ : Type} {F : Nat → Int → Option ρ} {r : ρ} (n : Nat) (hs : ∀ i : Nat, i < n → Ev (fun k => F k ((i + 1 : Nat) : Int)) r → Ev (fun k => F k (i : Int)) r)
    (he : Ev (fun k => F k (n : Int)) r) : Ev (fun k => F k 0) r := by
  have h : ∀ d i : Nat, i + d = n → Ev (fun k => F k (i : Int)) r := by
    intro d
    induction d with
    | zero => intro i hi; obtain rfl : i = n := by omega
              exact he
    | succ d ih => intro i hi; exact hs i (by omega) (ih (i + 1) (by omega))
  exact h n 0 (by omega)
theorem ev_ex {ρ : Type} {F : Nat → Int → Option ρ} (n : Nat) (hs : ∀ i : Nat, i < n → (∃ r, Ev (fun k => F k ((i + 1 : Nat) : Int)) r) → ∃ r, Ev (fun k => F k (i : Int)) r)
    (he : ∃ r, Ev (fun k => F k (n : Int)) r) : ∃ r, Ev (fun k => F k 0) r := by
  have h : ∀ d i : Nat, i + d = n → ∃ r, Ev (fun k => F k (i : Int)) r := by
    intro d
    induction d with
    | zero => intro i hi; obtain rfl : i = n := by omega
              exact he
    | succ d ih => intro i hi; exact hs i (by omega) (ih (i + 1) (by omega))
  exact h n 0 (by omega)
theorem ev_to {α β : Type} {F : Nat → List β → Int → Option (List β)} (l : List α) (h : α → β) (z : β)
    (hs : ∀ (acc : List β) (i : Nat) (hi : i < l.length) (r : List β), acc.length = l.length → Ev (fun k => F k (acc.set i (h l[i])) ((i + 1 : Nat) : Int)) r → Ev (fun k => F k acc (i : Int)) r)
    (he : ∀ acc : List β, Ev (fun k => F k acc (l.length : Int)) acc) : Ev (fun k => F k (List.replicate l.length z) 0) (l.map h) := by
  have g : ∀ (d i : Nat) (acc : List β), i + d = l.length → acc.length = l.length → (∀ j : Nat, j < i → acc[j]? = (l.map h)[j]?) → Ev (fun k => F k acc (i : Int)) (l.map h) := by
    intro d
    induction d with
    | zero =>
      intro i acc hi hl hp
      obtain rfl : i = l.length := by omega
      have e : acc = l.map h := by
        refine List.ext_getElem? fun j => ?_
        by_cases hj : j < l.length
        · exact hp j hj
        · rw [List.getElem?_eq_none (by omega), List.getElem?_eq_none (by rw [List.length_map]; omega)]
      have := he acc
      rw [e] at this ⊢; exact this
    | succ d ih =>
      intro i acc hi hl hp
      refine hs acc i (by omega) _ hl (ih (i + 1) _ (by omega) (by rw [List.length_set]; exact hl) fun j hj => ?_)
      rw [List.getElem?_set]
      by_cases e : i = j
      · subst e
        rw [if_pos rfl, if_pos (by omega), List.getElem?_map, List.getElem?_eq_getElem (by omega)]; rfl
      · rw [if_neg e]; exact hp j (by omega)
  exact g l.length 0 _ (by omega) List.length_replicate (fun j hj => absurd hj (by omega))
theorem ev_sz {α : Type} {F : Nat → Int → Int → Option Int} (l : List α) (B : α → Prop)
    (hs : ∀ (i : Nat) (hi : i < l.length) (left : Int), 0 ≤ left → left ≤ 1048576 →
      Ev (fun k => F k left (i : Int)) (-1) ∨ (∃ left', 0 ≤ left' ∧ left' ≤ left ∧ B l[i] ∧ ∀ t, Ev (fun k => F k left' ((i + 1 : Nat) : Int)) t → Ev (fun k => F k left (i : Int)) t))
    (he : ∀ left, Ev (fun k => F k left (l.length : Int)) left) (left : Int) (h0 : 0 ≤ left) (h1 : left ≤ 1048576) :
    Ev (fun k => F k left 0) (-1) ∨ ∃ t, 0 ≤ t ∧ t ≤ left ∧ Ev (fun k => F k left 0) t ∧ ∀ x ∈ l, B x := by
  have g : ∀ (d i : Nat) (left : Int), i + d = l.length → 0 ≤ left → left ≤ 1048576 → Ev (fun k => F k left (i : Int)) (-1) ∨ ∃ t, 0 ≤ t ∧ t ≤ left ∧ Ev (fun k => F k left (i : Int)) t ∧ ∀ j (hj : j < l.length), i ≤ j → B l[j] := by
    intro d
    induction d with
    | zero =>
      intro i left hi h0 h1
      obtain rfl : i = l.length := by omega
      exact .inr ⟨left, h0, Int.le_refl _, he left, fun j hj hij => absurd hj (by omega)⟩
    | succ d ih =>
      intro i left hi h0 h1
      rcases hs i (by omega) left h0 h1 with h | ⟨left', g0, g1, hB, hk⟩
      · exact .inl h
      · rcases ih (i + 1) left' (by omega) g0 (by omega) with h | ⟨t, t0, t1, ht, hb⟩
        · exact .inl (hk _ h)
        · refine .inr ⟨t, t0, by omega, hk _ ht, fun j hj hij => ?_⟩
          by_cases e : i = j
          · subst e; exact hB
          · exact hb j hj (by omega)
  rcases g l.length 0 left (by omega) h0 h1 with h | ⟨t, t0, t1, ht, hb⟩
  · exact .inl h
  · refine .inr ⟨t, t0, t1, ht, fun x hx => ?_⟩
    obtain ⟨j, hj, rfl⟩ := List.getElem_of_mem hx
    exact hb j hj (Nat.zero_le _)
theorem getD_at {α : Type} (l : List α) (z : α) (i : Nat) (h : i < l.length) : l.getD ((i : Int)).toNat z = l[i] := by
  rw [Int.toNat_natCast, List.getD_eq_getElem?_getD, List.getElem?_eq_getElem h]; rfl
theorem ev_all {α : Type} {F : Nat → Int → Option Bool} (l : List α) (p : α → Bool) (b : Bool)
    (hs : ∀ (i : Nat) (hi : i < l.length) (r : Bool), p l[i] = true → Ev (fun k => F k ((i + 1 : Nat) : Int)) r → Ev (fun k => F k (i : Int)) r)
    (hf : ∀ (i : Nat) (hi : i < l.length) (r : Bool), p l[i] = false → Ev (fun k => F k ((i + 1 : Nat) : Int)) r → Ev (fun k => F k (i : Int)) false)
    (he : Ev (fun k => F k (l.length : Int)) b) : Ev (fun k => F k 0) (l.all p && b) := by
  have h : ∀ d i : Nat, i + d = l.length → Ev (fun k => F k (i : Int)) ((l.drop i).all p && b) := by
    intro d
    induction d with
    | zero =>
      intro i hi; obtain rfl : i = l.length := by omega
      rw [List.drop_length]; exact he
    | succ d ih =>
      intro i hi
      have hlt : i < l.length := by omega
      rw [List.drop_eq_getElem_cons hlt, List.all_cons]
      cases hp : p l[i]
      · exact hf i hlt _ hp (ih (i + 1) (by omega))
      · exact hs i hlt _ hp (ih (i + 1) (by omega))
  exact h l.length 0 (by omega)

theorem toIntS_l0 (l : List Int) (hl : l.length ≤ 1048576) : ∀ (d k : Nat) (acc : List Int) (i : Int), 0 ≤ i → (l.length : Int) - i = d → acc.length = l.length → (∀ j : Nat, (j : Int) < i → acc[j]? = l[j]?) → d < k → laws_toIntS.l0 k l acc i = some l := by
  intro d
  induction d with
  | zero =>
    intro k acc i h0 hd hlen hp hk
    obtain ⟨k, rfl⟩ : ∃ m, k = m + 1 := ⟨k - 1, by omega⟩
    simp only [laws_toIntS.l0]
    rw [if_neg (by omega)]
    congr 1
    refine List.ext_getElem? fun j => ?_
    by_cases hj : j < l.length
    · exact hp j (by omega)
    · rw [List.getElem?_eq_none (by omega), List.getElem?_eq_none (by omega)]
  | succ d ih =>
    intro k acc i h0 hd hlen hp hk
    obtain ⟨k, rfl⟩ : ∃ m, k = m + 1 := ⟨k - 1, by omega⟩
    simp only [laws_toIntS.l0]
    rw [if_pos (by omega), if_pos h0, if_pos (by omega), wrap_id (x := i + 1) (by omega) (by omega)]
    refine ih k _ (i + 1) (by omega) (by omega) (by rw [List.length_set]; exact hlen) ?_ (by omega)
    intro j hj
    rw [List.getElem?_set]
    by_cases e : i.toNat = j
    · subst e
      rw [if_pos rfl, if_pos (by omega)]
      unfold rd
      rw [List.getD_eq_getElem?_getD, List.getElem?_eq_getElem (by omega)]
      rfl
    · rw [if_neg e]; exact hp j (by omega)
theorem toIntS_is (l : List Int) (hl : l.length ≤ 1048576) (k : Nat) (hk : l.length < k) : laws_toIntS.f k l = some l := by
  unfold laws_toIntS.f
  rw [if_pos (by omega), if_pos (by omega)]
  refine toIntS_l0 l hl l.length k _ 0 (by omega) (by omega) ?_ (fun j hj => by omega) hk
  rw [List.length_replicate]; omega
theorem eqIntS_l0 (l : List Int) (hl : l.length ≤ 1048576) : ∀ (d k : Nat) (i : Int), 0 ≤ i → (l.length : Int) - i = d → d < k → laws_eqIntS.l0 k l l i = some true := by
  intro d
  induction d with
  | zero =>
    intro k i h0 hd hk
    obtain ⟨k, rfl⟩ : ∃ m, k = m + 1 := ⟨k - 1, by omega⟩
    simp only [laws_eqIntS.l0]
    rw [if_neg (by omega)]
  | succ d ih =>
    intro k i h0 hd hk
    obtain ⟨k, rfl⟩ : ∃ m, k = m + 1 := ⟨k - 1, by omega⟩
    unfold laws_eqIntS.l0
    rw [if_pos (by omega), if_pos h0, if_pos (by omega), if_pos rfl, wrap_id (x := i + 1) (by omega) (by omega)]
    exact ih k (i + 1) (by omega) (by omega) (by omega)
theorem eqIntS_is (l : List Int) (hl : l.length ≤ 1048576) (k : Nat) (hk : l.length < k) : laws_eqIntS.f k l l = some true := by
  unfold laws_eqIntS.f
  rw [if_pos rfl]
  exact eqIntS_l0 l hl l.length k 0 (by omega) (by omega) hk

theorem atV (l : List S77) (i : Nat) (h : i < l.length) : rd_T77 l (i : Int) = l[i] := getD_at l _ i h
theorem atW (l : List S81) (i : Nat) (h : i < l.length) : rd_T81 l (i : Int) = l[i] := getD_at l _ i h
def conv (x : S77) : S81 := ⟨x.f0, ⟨x.f1.f0, x.f1.f1, x.f1.f2⟩, x.f2⟩
theorem toValueS_ev (l : List S77) (hl : l.length ≤ 1048576) : Ev (fun k => laws_toValueS.f k l) (l.map conv) := by
  unfold laws_toValueS.f
  refine Ev.congr (f := fun k => laws_toValueS.l0 k l (List.replicate l.length z81) 0) (fun k => by rw [if_pos (by omega), if_pos (by omega), Int.toNat_natCast]) ?_
  refine ev_to (F := fun k acc i => laws_toValueS.l0 k l acc i) l conv z81 ?_ ?_
  · intro acc i hi r hacc h
    refine Ev.step (fun k => ?_) h
    simp only [laws_toValueS.l0]
    rw [if_pos (by omega), if_pos (by omega), atV l i hi]
    simp only [laws_toValue.f, laws_toDec.f, Option.bind_some]
    rw [if_pos (by omega), wrap_id (x := (i : Int) + 1) (by omega) (by omega), Int.toNat_natCast]
    rfl
  · intro acc
    refine Ev.step (fun k => ?_) (Ev.now acc)
    simp only [laws_toValueS.l0]
    rw [if_neg (by omega)]
theorem eqDec_is (n : Bool) (d e : Int) : laws_eqDec.f n d e n d e = some true := by unfold laws_eqDec.f; simp
theorem eqValue_is (k : Int) (n : Bool) (d e : Int) (s : ByteArray) : laws_eqValue.f k n d e s k n d e s = some true := by
  unfold laws_eqValue.f; simp [eqDec_is]
theorem eqValueS_ev (l : List S81) (hl : l.length ≤ 1048576) : Ev (fun k => laws_eqValueS.f k l l) true := by
  unfold laws_eqValueS.f
  refine Ev.congr (f := fun k => laws_eqValueS.l0 k l l 0) (fun k => by rw [if_pos rfl]) ?_
  refine ev_down (F := fun k i => laws_eqValueS.l0 k l l i) l.length ?_ ?_
  · intro i hi h
    refine Ev.step (fun k => ?_) h
    simp only [laws_eqValueS.l0]
    rw [if_pos (by omega), if_pos (by omega), if_pos (by omega), atW l i hi]
    simp only [eqValue_is, Option.bind_some, if_true]
    rw [wrap_id (x := (i : Int) + 1) (by omega) (by omega)]
    rfl
  · refine Ev.step (fun k => ?_) (Ev.now true)
    simp only [laws_eqValueS.l0]
    rw [if_neg (by omega)]
theorem szValueS_ev (l : List S77) (hq : QL Q77 l) : Ev (fun k => laws_szValueS.f k l 1048576) (-1) ∨ ∃ t, 0 ≤ t ∧ t ≤ 1048576 ∧ Ev (fun k => laws_szValueS.f k l 1048576) t ∧ l.length ≤ 1048576 ∧ ∀ x ∈ l, x.f2.size ≤ 1048576 := by
  have hl := hq.1
  unfold laws_szValueS.f
  rw [wrap_id (x := 1048576 - (l.length : Int)) (by omega) (by omega)]
  by_cases h : 1048576 - (l.length : Int) < 0
  · exact .inl (Ev.congr (f := fun _ => some (-1)) (fun k => by rw [if_pos h]) (Ev.now _))
  · have e : ∀ k, (if 1048576 - (l.length : Int) < 0 then some (-1) else laws_szValueS.l0 k l (1048576 - (l.length : Int)) 0) = laws_szValueS.l0 k l (1048576 - (l.length : Int)) 0 := fun k => by rw [if_neg h]
    have := ev_sz (F := fun k left i => laws_szValueS.l0 k l left i) l (fun x => x.f2.size ≤ 1048576) ?_ ?_ (1048576 - (l.length : Int)) (by omega) (by omega)
    · rcases this with h1 | ⟨t, t0, t1, ht, hb⟩
      · exact .inl (Ev.congr e h1)
      · exact .inr ⟨t, t0, by omega, Ev.congr e ht, by omega, hb⟩
    · intro i hi left h0 h1
      have hs : (l[i]).f2.size ≤ maxLen := (hq.2 _ (List.getElem_mem hi)).2.2
      unfold maxLen at hs
      have w := wrap_id (x := left - ((l[i]).f2.size : Int)) (by omega) (by omega)
      by_cases hneg : left - ((l[i]).f2.size : Int) < 0
      · left
        refine Ev.step (fun k => ?_) (Ev.now (-1))
        simp only [laws_szValueS.l0]
        rw [if_pos (by omega), if_pos (by omega), atV l i hi]
        simp only [laws_szValue.f, w, if_pos hneg, Option.bind_some]
        rfl
      · right
        refine ⟨left - ((l[i]).f2.size : Int), by omega, by omega, by omega, fun t ht => ?_⟩
        refine Ev.step (fun k => ?_) ht
        simp only [laws_szValueS.l0]
        rw [if_pos (by omega), if_pos (by omega), atV l i hi]
        simp only [laws_szValue.f, w, if_neg hneg, Option.bind_some]
        rw [wrap_id (x := (i : Int) + 1) (by omega) (by omega)]
        rfl
    · intro left
      refine Ev.step (fun k => ?_) (Ev.now left)
      simp only [laws_szValueS.l0]
      rw [if_neg (by omega)]
def pval (x : S81) : Bool := goodValB x.f0 x.f1.f0 x.f1.f1 x.f1.f2 x.f2
theorem specVal_ev (x : S81) (h : x.f2.size ≤ 1048576) : Ev (fun k => spec_GoodValue.f k x.f0 x.f1.f0 x.f1.f1 x.f1.f2 x.f2) (pval x) := ⟨1048590, fun k hk => specGoodValue_is _ _ _ _ _ h k hk⟩
theorem implVal_ev (x : S81) (h : x.f2.size ≤ 1048576) : Ev (fun _ => impl_GoodValue.f x.f0 x.f1.f0 x.f1.f1 x.f1.f2 x.f2) (pval x) := ⟨0, fun k hk => by unfold impl_GoodValue.f; rw [if_pos h]; rfl⟩
def gridB (r c : Int) (L : List S81) : Bool :=
  if r < 1 then (!true && L.all pval) else if c < 1 then (!true && L.all pval) else if r > 2000 then (!true && L.all pval) else if c > 2000 then (!true && L.all pval) else if wrap64 (r * c) > 2000 then (!true && L.all pval) else (!((L.length : Int) != wrap64 (r * c)) && L.all pval)
theorem specList_ev (L : List S81) (hb : ∀ x ∈ L, x.f2.size ≤ 1048576) (hl : L.length ≤ 1048576) : Ev (fun k => spec_GoodGrid.l0 k L (L.length : Int) 0) (L.all pval) := by
  rw [show L.all pval = (L.all pval && true) from (Bool.and_true _).symm]
  refine ev_all (F := fun k i => spec_GoodGrid.l0 k L (L.length : Int) i) L pval true ?_ ?_ ?_
  · intro i hi r hp h
    have hv := specVal_ev L[i] (hb _ (List.getElem_mem hi))
    rw [hp] at hv
    refine Ev.step (fun k => ?_) (Ev.bind (f := fun k t => if t = true then spec_GoodGrid.l0 k L (L.length : Int) ((i + 1 : Nat) : Int) else some false) hv (Ev.congr (fun k => by rw [if_pos rfl]) h))
    simp only [spec_GoodGrid.l0]
    rw [if_pos (by omega), if_pos (by omega), if_pos (by omega), atW L i hi, wrap_id (x := (i : Int) + 1) (by omega) (by omega)]
    rfl
  · intro i hi r hp h
    have hv := specVal_ev L[i] (hb _ (List.getElem_mem hi))
    rw [hp] at hv
    refine Ev.step (fun k => ?_) (Ev.bind (f := fun k t => if t = true then spec_GoodGrid.l0 k L (L.length : Int) ((i + 1 : Nat) : Int) else some false) hv (Ev.congr (f := fun _ => some false) (fun k => by rw [if_neg (by decide)]) (Ev.now false)))
    simp only [spec_GoodGrid.l0]
    rw [if_pos (by omega), if_pos (by omega), if_pos (by omega), atW L i hi, wrap_id (x := (i : Int) + 1) (by omega) (by omega)]
    rfl
  · refine Ev.step (fun k => ?_) (Ev.now true)
    simp only [spec_GoodGrid.l0]
    rw [if_neg (by omega)]
theorem specj_ev (b : Bool) (r c : Int) (L : List S81) (hb : ∀ x ∈ L, x.f2.size ≤ 1048576) (hl : L.length ≤ 1048576) : Ev (fun k => spec_GoodGrid.j0 k b r c L) (!b && L.all pval) := by
  cases b
  · refine Ev.step (fun k => ?_) (specList_ev L hb hl)
    simp only [spec_GoodGrid.j0, Bool.false_eq_true, if_false]
  · refine Ev.step (fun k => ?_) (Ev.now false)
    simp only [spec_GoodGrid.j0, if_true]
theorem specGrid_ev (r c : Int) (L : List S81) (hb : ∀ x ∈ L, x.f2.size ≤ 1048576) (hl : L.length ≤ 1048576) : Ev (fun k => spec_GoodGrid.f k r c L) (gridB r c L) := by
  unfold spec_GoodGrid.f gridB
  by_cases h1 : r < 1
  · rw [if_pos h1]; exact Ev.congr (fun k => by rw [if_pos h1]) (specj_ev true r c L hb hl)
  by_cases h2 : c < 1
  · rw [if_neg h1, if_pos h2]; exact Ev.congr (fun k => by rw [if_neg h1, if_pos h2]) (specj_ev true r c L hb hl)
  by_cases h3 : r > 2000
  · rw [if_neg h1, if_neg h2, if_pos h3]; exact Ev.congr (fun k => by rw [if_neg h1, if_neg h2, if_pos h3]) (specj_ev true r c L hb hl)
  by_cases h4 : c > 2000
  · rw [if_neg h1, if_neg h2, if_neg h3, if_pos h4]; exact Ev.congr (fun k => by rw [if_neg h1, if_neg h2, if_neg h3, if_pos h4]) (specj_ev true r c L hb hl)
  by_cases h5 : wrap64 (r * c) > 2000
  · rw [if_neg h1, if_neg h2, if_neg h3, if_neg h4, if_pos h5]; exact Ev.congr (fun k => by rw [if_neg h1, if_neg h2, if_neg h3, if_neg h4, if_pos h5]) (specj_ev true r c L hb hl)
  rw [if_neg h1, if_neg h2, if_neg h3, if_neg h4, if_neg h5]
  exact Ev.congr (fun k => by rw [if_neg h1, if_neg h2, if_neg h3, if_neg h4, if_neg h5]) (specj_ev _ r c L hb hl)
theorem implList_ev (L : List S81) (hb : ∀ x ∈ L, x.f2.size ≤ 1048576) (hl : L.length ≤ 1048576) : Ev (fun k => impl_GoodGrid.l0 k L (L.length : Int) 0) (L.all pval) := by
  rw [show L.all pval = (L.all pval && true) from (Bool.and_true _).symm]
  refine ev_all (F := fun k i => impl_GoodGrid.l0 k L (L.length : Int) i) L pval true ?_ ?_ ?_
  · intro i hi r hp h
    have hv := implVal_ev L[i] (hb _ (List.getElem_mem hi))
    rw [hp] at hv
    refine Ev.step (fun k => ?_) (Ev.bind (f := fun k t => if t = true then impl_GoodGrid.l0 k L (L.length : Int) ((i + 1 : Nat) : Int) else some false) hv (Ev.congr (fun k => by rw [if_pos rfl]) h))
    simp only [impl_GoodGrid.l0]
    rw [if_pos (by omega), if_pos (by omega), if_pos (by omega), atW L i hi, wrap_id (x := (i : Int) + 1) (by omega) (by omega)]
    rfl
  · intro i hi r hp h
    have hv := implVal_ev L[i] (hb _ (List.getElem_mem hi))
    rw [hp] at hv
    refine Ev.step (fun k => ?_) (Ev.bind (f := fun k t => if t = true then impl_GoodGrid.l0 k L (L.length : Int) ((i + 1 : Nat) : Int) else some false) hv (Ev.congr (f := fun _ => some false) (fun k => by rw [if_neg (by decide)]) (Ev.now false)))
    simp only [impl_GoodGrid.l0]
    rw [if_pos (by omega), if_pos (by omega), if_pos (by omega), atW L i hi, wrap_id (x := (i : Int) + 1) (by omega) (by omega)]
    rfl
  · refine Ev.step (fun k => ?_) (Ev.now true)
    simp only [impl_GoodGrid.l0]
    rw [if_neg (by omega)]
theorem implj_ev (b : Bool) (r c : Int) (L : List S81) (hb : ∀ x ∈ L, x.f2.size ≤ 1048576) (hl : L.length ≤ 1048576) : Ev (fun k => impl_GoodGrid.j0 k b r c L) (!b && L.all pval) := by
  cases b
  · refine Ev.step (fun k => ?_) (implList_ev L hb hl)
    simp only [impl_GoodGrid.j0, Bool.false_eq_true, if_false]
  · refine Ev.step (fun k => ?_) (Ev.now false)
    simp only [impl_GoodGrid.j0, if_true]
theorem implGrid_ev (r c : Int) (L : List S81) (hb : ∀ x ∈ L, x.f2.size ≤ 1048576) (hl : L.length ≤ 1048576) : Ev (fun k => impl_GoodGrid.f k r c L) (gridB r c L) := by
  unfold impl_GoodGrid.f gridB
  by_cases h1 : r < 1
  · rw [if_pos h1]; exact Ev.congr (fun k => by rw [if_pos h1]) (implj_ev true r c L hb hl)
  by_cases h2 : c < 1
  · rw [if_neg h1, if_pos h2]; exact Ev.congr (fun k => by rw [if_neg h1, if_pos h2]) (implj_ev true r c L hb hl)
  by_cases h3 : r > 2000
  · rw [if_neg h1, if_neg h2, if_pos h3]; exact Ev.congr (fun k => by rw [if_neg h1, if_neg h2, if_pos h3]) (implj_ev true r c L hb hl)
  by_cases h4 : c > 2000
  · rw [if_neg h1, if_neg h2, if_neg h3, if_pos h4]; exact Ev.congr (fun k => by rw [if_neg h1, if_neg h2, if_neg h3, if_pos h4]) (implj_ev true r c L hb hl)
  by_cases h5 : wrap64 (r * c) > 2000
  · rw [if_neg h1, if_neg h2, if_neg h3, if_neg h4, if_pos h5]; exact Ev.congr (fun k => by rw [if_neg h1, if_neg h2, if_neg h3, if_neg h4, if_pos h5]) (implj_ev true r c L hb hl)
  rw [if_neg h1, if_neg h2, if_neg h3, if_neg h4, if_neg h5]
  exact Ev.congr (fun k => by rw [if_neg h1, if_neg h2, if_neg h3, if_neg h4, if_neg h5]) (implj_ev _ r c L hb hl)

theorem atM (l : List S136) (i : Nat) (h : i < l.length) : rd_T136 l (i : Int) = l[i] := getD_at l _ i h
theorem atN (l : List S90) (i : Nat) (h : i < l.length) : rd_T90 l (i : Int) = l[i] := getD_at l _ i h
theorem atI (l : List Int) (i : Nat) (h : i < l.length) : rd l (i : Int) = l[i] := by
  unfold rd; rw [Int.toNat_natCast, List.getD_eq_getElem?_getD, List.getElem?_eq_getElem h]; rfl
def convM (x : S136) : S90 := ⟨x.f0, x.f1⟩
theorem toMeasureS_ev (l : List S136) (hl : l.length ≤ 1048576) : Ev (fun k => laws_toMeasureS.f k l) (l.map convM) := by
  unfold laws_toMeasureS.f
  refine Ev.congr (f := fun k => laws_toMeasureS.l0 k l (List.replicate l.length z90) 0) (fun k => by rw [if_pos (by omega), if_pos (by omega), Int.toNat_natCast]) ?_
  refine ev_to (F := fun k acc i => laws_toMeasureS.l0 k l acc i) l convM z90 ?_ ?_
  · intro acc i hi r hacc h
    refine Ev.step (fun k => ?_) h
    simp only [laws_toMeasureS.l0]
    rw [if_pos (by omega), if_pos (by omega), atM l i hi]
    simp only [laws_toMeasure.f, Option.bind_some]
    rw [if_pos (by omega), wrap_id (x := (i : Int) + 1) (by omega) (by omega), Int.toNat_natCast]
    rfl
  · intro acc
    refine Ev.step (fun k => ?_) (Ev.now acc)
    simp only [laws_toMeasureS.l0]
    rw [if_neg (by omega)]
theorem eqMeasureS_ev (l : List S90) (hl : l.length ≤ 1048576) : Ev (fun k => laws_eqMeasureS.f k l l) true := by
  unfold laws_eqMeasureS.f
  refine Ev.congr (f := fun k => laws_eqMeasureS.l0 k l l 0) (fun k => by rw [if_pos rfl]) ?_
  refine ev_down (F := fun k i => laws_eqMeasureS.l0 k l l i) l.length ?_ ?_
  · intro i hi h
    refine Ev.step (fun k => ?_) h
    simp only [laws_eqMeasureS.l0]
    rw [if_pos (by omega), if_pos (by omega), if_pos (by omega), atN l i hi]
    simp only [laws_eqMeasure.f, Option.bind_some, if_true]
    rw [wrap_id (x := (i : Int) + 1) (by omega) (by omega)]
    rfl
  · refine Ev.step (fun k => ?_) (Ev.now true)
    simp only [laws_eqMeasureS.l0]
    rw [if_neg (by omega)]
theorem colsL1 (r c : Int) (L : List S81) (l : List Int) (x : Int) (i : Nat) (R : Bool) (hi : i < l.length) (hl : l.length ≤ 1000)
    (hR : Ev (fun k => spec_l12Cols.l0 k l 6 l (l.length : Int) ((i + 1 : Nat) : Int) r c L) R) (P : List Int) (hP : P.length ≤ 1000) : ∀ d p : Nat, p + d = P.length →
    Ev (fun k => spec_l12Cols.l1 k l 6 x l (l.length : Int) (i : Int) P (P.length : Int) (p : Int) r c L) (decide (x ∉ P.drop p) && R) := by
  intro d
  induction d with
  | zero =>
    intro p hp
    obtain rfl : p = P.length := by omega
    rw [List.drop_length]
    refine Ev.step (fun k => ?_) (by simpa using hR)
    simp only [spec_l12Cols.l1]
    rw [if_neg (by omega), wrap_id (x := (i : Int) + 1) (by omega) (by omega)]
    try rfl
  | succ d ih =>
    intro p hp
    have hlt : p < P.length := by omega
    rw [List.drop_eq_getElem_cons hlt]
    by_cases e : P[p] = x
    · rw [show (decide (x ∉ P[p] :: P.drop (p + 1)) && R) = false by simp [e]]
      refine Ev.step (f := fun _ => some false) (fun k => ?_) (Ev.now false)
      simp only [spec_l12Cols.l1]
      rw [if_pos (by omega), if_pos (by omega), if_pos (by omega), atI P p hlt, if_pos e]
    · rw [show (decide (x ∉ P[p] :: P.drop (p + 1)) && R) = (decide (x ∉ P.drop (p + 1)) && R) by
        congr 1
        refine decide_eq_decide.2 ⟨fun h h' => h (List.mem_cons_of_mem _ h'), fun h h' => ?_⟩
        rcases List.mem_cons.1 h' with h1 | h1
        · exact e h1.symm
        · exact h h1]
      refine Ev.step (fun k => ?_) (ih (p + 1) (by omega))
      simp only [spec_l12Cols.l1]
      rw [if_pos (by omega), if_pos (by omega), if_pos (by omega), atI P p hlt, if_neg e, wrap_id (x := (p : Int) + 1) (by omega) (by omega)]
      rfl
theorem cols_ev (r c : Int) (L : List S81) (l : List Int) (hl : l.length ≤ 1000) : Ev (fun k => spec_l12Cols.f k r c L l 6) (colB c [] l && decide ((l.length : Int) ≤ 6)) := by
  have g : ∀ d i : Nat, i + d = l.length → Ev (fun k => spec_l12Cols.l0 k l 6 l (l.length : Int) (i : Int) r c L) (colB c (l.take i) (l.drop i) && decide ((l.length : Int) ≤ 6)) := by
    intro d
    induction d with
    | zero =>
      intro i hi
      obtain rfl : i = l.length := by omega
      rw [List.drop_length]
      refine Ev.step (fun k => ?_) (Ev.now _)
      simp only [spec_l12Cols.l0]
      rw [if_neg (by omega)]
      try rfl
    | succ d ih =>
      intro i hi
      have hlt : i < l.length := by omega
      rw [List.drop_eq_getElem_cons hlt]
      have ht : (l.take i).length = i := by rw [List.length_take]; omega
      have e1 : colB c (l.take i) (l[i] :: l.drop (i + 1)) = (decide (1 ≤ l[i] ∧ l[i] ≤ c ∧ l[i] ∉ l.take i) && colB c (l.take (i + 1)) (l.drop (i + 1))) := by
        rw [colB, List.take_succ_eq_append_getElem hlt]
      rw [e1]
      have hn := ih (i + 1) (by omega)
      by_cases h1 : l[i] < 1
      · rw [show decide (1 ≤ l[i] ∧ l[i] ≤ c ∧ l[i] ∉ l.take i) = false from decide_eq_false (by omega)]
        refine Ev.step (f := fun k => spec_l12Cols.j1 k l 6 (i : Int) l[i] l (l.length : Int) (i : Int) true r c L) (fun k => ?_) (Ev.step (f := fun _ => some false) (fun k => ?_) (Ev.now false))
        · simp only [spec_l12Cols.l0]
          rw [if_pos (by omega), if_pos (by omega), if_pos (by omega), atI l i hlt, if_pos h1]
        · simp only [spec_l12Cols.j1]
          rw [if_pos trivial]
      by_cases h2 : l[i] > c
      · rw [show decide (1 ≤ l[i] ∧ l[i] ≤ c ∧ l[i] ∉ l.take i) = false from decide_eq_false (by omega)]
        refine Ev.step (f := fun k => spec_l12Cols.j1 k l 6 (i : Int) l[i] l (l.length : Int) (i : Int) (decide (l[i] > c)) r c L) (fun k => ?_) (Ev.step (f := fun _ => some false) (fun k => ?_) (Ev.now false))
        · simp only [spec_l12Cols.l0]
          rw [if_pos (by omega), if_pos (by omega), if_pos (by omega), atI l i hlt, if_neg h1]
        · simp only [spec_l12Cols.j1]
          rw [if_pos (decide_eq_true h2)]
      have hq := colsL1 r c L l l[i] i _ hlt hl hn (l.take i) (by omega) i 0 (by omega)
      rw [List.drop_zero] at hq
      have e2 : decide (1 ≤ l[i] ∧ l[i] ≤ c ∧ l[i] ∉ l.take i) = decide (l[i] ∉ l.take i) := decide_eq_decide.2 ⟨fun h => h.2.2, fun h => ⟨by omega, by omega, h⟩⟩
      rw [e2, Bool.and_assoc]
      refine Ev.step (f := fun k => spec_l12Cols.j1 k l 6 (i : Int) l[i] l (l.length : Int) (i : Int) (decide (l[i] > c)) r c L) (fun k => ?_) (Ev.step (fun k => ?_) hq)
      · simp only [spec_l12Cols.l0]
        rw [if_pos (by omega), if_pos (by omega), if_pos (by omega), atI l i hlt, if_neg h1]
      · simp only [spec_l12Cols.j1]
        rw [if_neg (by simpa using h2), if_pos (by omega), if_pos (by omega), Int.toNat_natCast]
        rfl
  have := g l.length 0 (by omega)
  rw [List.drop_zero, List.take_zero] at this
  exact this
def mB (c : Int) (x : S90) : Bool := decide (1 ≤ x.f0 ∧ x.f0 ≤ c ∧ 1 ≤ x.f1 ∧ x.f1 ≤ 5)
theorem specMList_ev (r c : Int) (L : List S81) (m : List S90) (hl : m.length ≤ 1048576) : Ev (fun k => spec_GoodPivot.l0 k m (m.length : Int) 0 r c L) (m.all (mB c)) := by
  rw [show m.all (mB c) = (m.all (mB c) && true) from (Bool.and_true _).symm]
  refine ev_all (F := fun k i => spec_GoodPivot.l0 k m (m.length : Int) i r c L) m (mB c) true ?_ ?_ ?_
  · intro i hi _ hp h
    have hp := of_decide_eq_true hp
    refine Ev.step (fun k => ?_) h
    simp only [spec_GoodPivot.l0]
    rw [if_pos (by omega), if_pos (by omega), if_pos (by omega), atN m i hi, if_neg (by omega), if_neg (by omega), if_neg (by omega), if_neg (by omega), wrap_id (x := (i : Int) + 1) (by omega) (by omega)]
    rfl
  · intro i hi _ hp h
    have hp := of_decide_eq_false hp
    refine Ev.step (f := fun _ => some false) (fun k => ?_) (Ev.now false)
    simp only [spec_GoodPivot.l0]
    rw [if_pos (by omega), if_pos (by omega), if_pos (by omega), atN m i hi]
    by_cases h1 : m[i].f0 < 1
    · rw [if_pos h1]
    by_cases h2 : m[i].f0 > c
    · rw [if_neg h1, if_pos h2]
    by_cases h3 : m[i].f1 < 1
    · rw [if_neg h1, if_neg h2, if_pos h3]
    rw [if_neg h1, if_neg h2, if_neg h3, if_pos (by omega)]
  · refine Ev.step (fun k => ?_) (Ev.now true)
    simp only [spec_GoodPivot.l0]
    rw [if_neg (by omega)]
theorem specMj_ev (b : Bool) (r c : Int) (L : List S81) (u v : List Int) (m : List S90) (t : Bool) (hl : m.length ≤ 1048576) : Ev (fun k => spec_GoodPivot.j0 k b r c L u v m t) (!b && m.all (mB c)) := by
  cases b
  · refine Ev.step (fun k => ?_) (specMList_ev r c L m hl)
    simp only [spec_GoodPivot.j0, Bool.false_eq_true, if_false]
  · refine Ev.step (fun k => ?_) (Ev.now false)
    simp only [spec_GoodPivot.j0, if_true]
theorem implMList_ev (r c : Int) (L : List S81) (m : List S90) (hl : m.length ≤ 1048576) : Ev (fun k => impl_GoodPivot.l0 k m (m.length : Int) 0 r c L) (m.all (mB c)) := by
  rw [show m.all (mB c) = (m.all (mB c) && true) from (Bool.and_true _).symm]
  refine ev_all (F := fun k i => impl_GoodPivot.l0 k m (m.length : Int) i r c L) m (mB c) true ?_ ?_ ?_
  · intro i hi _ hp h
    have hp := of_decide_eq_true hp
    refine Ev.step (fun k => ?_) h
    simp only [impl_GoodPivot.l0]
    rw [if_pos (by omega), if_pos (by omega), if_pos (by omega), atN m i hi, if_neg (by omega), if_neg (by omega), if_neg (by omega), if_neg (by omega), wrap_id (x := (i : Int) + 1) (by omega) (by omega)]
    rfl
  · intro i hi _ hp h
    have hp := of_decide_eq_false hp
    refine Ev.step (f := fun _ => some false) (fun k => ?_) (Ev.now false)
    simp only [impl_GoodPivot.l0]
    rw [if_pos (by omega), if_pos (by omega), if_pos (by omega), atN m i hi]
    by_cases h1 : m[i].f0 < 1
    · rw [if_pos h1]
    by_cases h2 : m[i].f0 > c
    · rw [if_neg h1, if_pos h2]
    by_cases h3 : m[i].f1 < 1
    · rw [if_neg h1, if_neg h2, if_pos h3]
    rw [if_neg h1, if_neg h2, if_neg h3, if_pos (by omega)]
  · refine Ev.step (fun k => ?_) (Ev.now true)
    simp only [impl_GoodPivot.l0]
    rw [if_neg (by omega)]
theorem implMj_ev (b : Bool) (r c : Int) (L : List S81) (u v : List Int) (m : List S90) (t : Bool) (hl : m.length ≤ 1048576) : Ev (fun k => impl_GoodPivot.j0 k b r c L u v m t) (!b && m.all (mB c)) := by
  cases b
  · refine Ev.step (fun k => ?_) (implMList_ev r c L m hl)
    simp only [impl_GoodPivot.j0, Bool.false_eq_true, if_false]
  · refine Ev.step (fun k => ?_) (Ev.now false)
    simp only [impl_GoodPivot.j0, if_true]
def pivB (r c : Int) (L : List S81) (u v : List Int) (m : List S90) : Bool :=
  if gridB r c L = true then (if (u.length : Int) < 1 then (!true && m.all (mB c)) else if (u.length : Int) > 3 then (!true && m.all (mB c)) else if (v.length : Int) > 3 then (!true && m.all (mB c))
    else if colB c [] (u ++ v) = true then (if (m.length : Int) < 1 then (!true && m.all (mB c)) else (!(decide ((m.length : Int) > 4)) && m.all (mB c))) else (!true && m.all (mB c))) else (!true && m.all (mB c))
theorem specPiv_ev (r c : Int) (L : List S81) (u v : List Int) (m : List S90) (t : Bool) (hb : ∀ x ∈ L, x.f2.size ≤ 1048576) (hl : L.length ≤ 1048576)
    (hu : u.length ≤ 1048576) (hv : v.length ≤ 1048576) (hm : m.length ≤ 1048576) (hw : ∀ x ∈ u ++ v, (Lit.int .i64 x).wf = true) : Ev (fun k => spec_GoodPivot.f k r c L u v m t) (pivB r c L u v m) := by
  have hj := fun b => specMj_ev b r c L u v m t hm
  unfold spec_GoodPivot.f pivB
  simp only [List.length_nil, List.nil_append, Option.bind_some]
  refine Ev.congr (fun k => by rw [if_pos (by omega), if_pos (by omega)]) ?_
  have hg := specGrid_ev r c L hb hl
  by_cases h0 : gridB r c L = true
  · rw [h0] at hg
    rw [if_pos h0]
    refine Ev.bind hg (Ev.congr (fun k => by rw [if_pos rfl]) ?_)
    by_cases h1 : (u.length : Int) < 1
    · rw [if_pos h1]; exact Ev.congr (fun k => by rw [if_pos h1]) (hj true)
    by_cases h2 : (u.length : Int) > 3
    · rw [if_neg h1, if_pos h2]; exact Ev.congr (fun k => by rw [if_neg h1, if_pos h2]) (hj true)
    by_cases h3 : (v.length : Int) > 3
    · rw [if_neg h1, if_neg h2, if_pos h3]; exact Ev.congr (fun k => by rw [if_neg h1, if_neg h2, if_pos h3]) (hj true)
    rw [if_neg h1, if_neg h2, if_neg h3]
    refine Ev.congr (fun k => by rw [if_neg h1, if_neg h2, if_neg h3]) ?_
    have hc : Ev (fun k => spec_l12Cols.f k r c L (u ++ v) 6) (colB c [] (u ++ v)) := by
      have hlen : (u ++ v).length ≤ 6 := by rw [List.length_append]; omega
      have := cols_ev r c L (u ++ v) (by omega)
      rw [decide_eq_true (show ((u ++ v).length : Int) ≤ 6 by omega), Bool.and_true] at this
      exact this
    by_cases h4 : colB c [] (u ++ v) = true
    · rw [h4] at hc
      rw [if_pos h4]
      refine Ev.bind hc (Ev.congr (fun k => by rw [if_pos rfl]) ?_)
      by_cases h5 : (m.length : Int) < 1
      · rw [if_pos h5]; exact Ev.congr (fun k => by rw [if_pos h5]) (hj true)
      rw [if_neg h5]; exact Ev.congr (fun k => by rw [if_neg h5]) (hj _)
    · rw [Bool.not_eq_true] at h4
      rw [h4] at hc ⊢
      rw [if_neg (by decide)]
      exact Ev.bind hc (Ev.congr (fun k => by rw [if_neg (by decide)]) (hj true))
  · rw [Bool.not_eq_true] at h0
    rw [h0] at hg ⊢
    rw [if_neg (by decide)]
    exact Ev.bind hg (Ev.congr (fun k => by rw [if_neg (by decide)]) (hj true))
theorem implPiv_ev (r c : Int) (L : List S81) (u v : List Int) (m : List S90) (t : Bool) (hb : ∀ x ∈ L, x.f2.size ≤ 1048576) (hl : L.length ≤ 1048576)
    (hu : u.length ≤ 1048576) (hv : v.length ≤ 1048576) (hm : m.length ≤ 1048576) (hw : ∀ x ∈ u ++ v, (Lit.int .i64 x).wf = true) : Ev (fun k => impl_GoodPivot.f k r c L u v m t) (pivB r c L u v m) := by
  have hj := fun b => implMj_ev b r c L u v m t hm
  unfold impl_GoodPivot.f pivB
  simp only [List.length_nil, List.nil_append, Option.bind_some]
  refine Ev.congr (fun k => by rw [if_pos (by omega), if_pos (by omega)]) ?_
  have hg := implGrid_ev r c L hb hl
  by_cases h0 : gridB r c L = true
  · rw [h0] at hg
    rw [if_pos h0]
    refine Ev.bind hg (Ev.congr (fun k => by rw [if_pos rfl]) ?_)
    by_cases h1 : (u.length : Int) < 1
    · rw [if_pos h1]; exact Ev.congr (fun k => by rw [if_pos h1]) (hj true)
    by_cases h2 : (u.length : Int) > 3
    · rw [if_neg h1, if_pos h2]; exact Ev.congr (fun k => by rw [if_neg h1, if_pos h2]) (hj true)
    by_cases h3 : (v.length : Int) > 3
    · rw [if_neg h1, if_neg h2, if_pos h3]; exact Ev.congr (fun k => by rw [if_neg h1, if_neg h2, if_pos h3]) (hj true)
    rw [if_neg h1, if_neg h2, if_neg h3]
    refine Ev.congr (fun k => by rw [if_neg h1, if_neg h2, if_neg h3]) ?_
    have hc : Ev (fun _ => impl_goodCols.f r c L (u ++ v)) (colB c [] (u ++ v)) := by
      have hlen : (u ++ v).length ≤ 6 := by rw [List.length_append]; omega
      exact ⟨0, fun k _ => by unfold impl_goodCols.f; rw [if_pos ⟨hw, by omega⟩]⟩
    by_cases h4 : colB c [] (u ++ v) = true
    · rw [h4] at hc
      rw [if_pos h4]
      refine Ev.bind hc (Ev.congr (fun k => by rw [if_pos rfl]) ?_)
      by_cases h5 : (m.length : Int) < 1
      · rw [if_pos h5]; exact Ev.congr (fun k => by rw [if_pos h5]) (hj true)
      rw [if_neg h5]; exact Ev.congr (fun k => by rw [if_neg h5]) (hj _)
    · rw [Bool.not_eq_true] at h4
      rw [h4] at hc ⊢
      rw [if_neg (by decide)]
      exact Ev.bind hc (Ev.congr (fun k => by rw [if_neg (by decide)]) (hj true))
  · rw [Bool.not_eq_true] at h0
    rw [h0] at hg ⊢
    rw [if_neg (by decide)]
    exact Ev.bind hg (Ev.congr (fun k => by rw [if_neg (by decide)]) (hj true))
theorem szPivot_cases (u v : List Int) (m : List S136) (b : Bool) (t : Int) (t0 : 0 ≤ t) (t1 : t ≤ 1048576) (hu : u.length ≤ 9223372036854775807) (hv : v.length ≤ 9223372036854775807) (hm : m.length ≤ 9223372036854775807) :
    laws_szPivot.f u v m b t = some (-1) ∨ ∃ s, 0 ≤ s ∧ laws_szPivot.f u v m b t = some s ∧ u.length ≤ 1048576 ∧ v.length ≤ 1048576 ∧ m.length ≤ 1048576 := by
  unfold laws_szPivot.f laws_szIntS.f laws_szMeasureS.f
  rw [wrap_id (x := t - (u.length : Int)) (by omega) (by omega)]
  by_cases h1 : t - (u.length : Int) < 0
  · left; rw [if_pos h1]; rfl
  rw [if_neg h1]
  simp only [Option.bind_some]
  rw [if_neg h1, wrap_id (x := t - (u.length : Int) - (v.length : Int)) (by omega) (by omega)]
  by_cases h2 : t - (u.length : Int) - (v.length : Int) < 0
  · left; rw [if_pos h2]; rfl
  rw [if_neg h2]
  simp only [Option.bind_some]
  rw [if_neg h2, wrap_id (x := t - (u.length : Int) - (v.length : Int) - (m.length : Int)) (by omega) (by omega)]
  by_cases h3 : t - (u.length : Int) - (v.length : Int) - (m.length : Int) < 0
  · left; rw [if_pos h3]; rfl
  right
  refine ⟨t - (u.length : Int) - (v.length : Int) - (m.length : Int), by omega, ?_, by omega, by omega, by omega⟩
  rw [if_neg h3]
  simp only [Option.bind_some]
  rw [if_neg h3]
theorem FnExactGoodPivot : ∀ (a0_0 : Int) (a0_1 : Int) (l0_2 : (List S77)) (l1_0 : (List Int)) (l1_1 : (List Int)) (l1_2 : (List S136)) (a1_3 : Bool), (Lit.int .i64 a0_0).wf = true → (Lit.int .i64 a0_1).wf = true → QL Q77 l0_2 → QL (QI .i64) l1_0 → QL (QI .i64) l1_1 → QL Q136 l1_2 → ∃ k, laws_FnExactGoodPivot.f k a0_0 a0_1 l0_2 l1_0 l1_1 l1_2 a1_3 = some true := by
  intro r c l u v m b _ _ hq hqu hqv hqm
  refine Ev.rounds ?_
  unfold laws_FnExactGoodPivot.f
  rcases szValueS_ev l hq with h | ⟨t, t0, t1, ht, hl, hb⟩
  · have h' : Ev (fun k => laws_szGrid.f k r c l 1048576) (-1) := by
      unfold laws_szGrid.f
      exact Ev.bind h (Ev.congr (f := fun _ => some (-1)) (fun k => by rw [if_pos (by omega)]) (Ev.now (-1)))
    exact Ev.bind h' (Ev.congr (f := fun _ => some true) (fun k => by rw [if_pos (by omega)]) (Ev.now true))
  have h' : Ev (fun k => laws_szGrid.f k r c l 1048576) t := by
    unfold laws_szGrid.f
    exact Ev.bind ht (Ev.congr (f := fun _ => some t) (fun k => by rw [if_neg (by omega)]) (Ev.now t))
  refine Ev.bind h' (Ev.congr (fun k => by rw [if_neg (by omega : ¬ t < 0)]) ?_)
  rcases szPivot_cases u v m b t t0 t1 hqu.1 hqv.1 hqm.1 with h | ⟨s, s0, hs, hu, hv, hm⟩
  · exact Ev.bind ⟨0, fun _ _ => h⟩ (Ev.congr (f := fun _ => some true) (fun k => by rw [if_pos (by omega)]) (Ev.now true))
  refine Ev.bind ⟨0, fun _ _ => hs⟩ (Ev.congr (fun k => by rw [if_neg (by omega : ¬ s < 0)]) ?_)
  have h1 : Ev (fun k => laws_toGrid.f k r c l) (r, c, l.map conv) := by
    unfold laws_toGrid.f
    exact Ev.bind (toValueS_ev l hl) (Ev.now _)
  have hu1 : Ev (fun k => laws_toIntS.f k u) u := ⟨u.length + 1, fun k hk => toIntS_is u hu k (by omega)⟩
  have hv1 : Ev (fun k => laws_toIntS.f k v) v := ⟨v.length + 1, fun k hk => toIntS_is v hv k (by omega)⟩
  have hu2 : Ev (fun k => laws_eqIntS.f k u u) true := ⟨u.length + 1, fun k hk => eqIntS_is u hu k (by omega)⟩
  have hv2 : Ev (fun k => laws_eqIntS.f k v v) true := ⟨v.length + 1, fun k hk => eqIntS_is v hv k (by omega)⟩
  have h2 : Ev (fun k => laws_toPivot.f k u v m b) (u, v, m.map convM, b) := by
    unfold laws_toPivot.f
    exact Ev.bind hu1 (Ev.bind hv1 (Ev.bind (toMeasureS_ev m hm) (Ev.now _)))
  have hlm : (l.map conv).length ≤ 1048576 := by rw [List.length_map]; exact hl
  have hmm : (m.map convM).length ≤ 1048576 := by rw [List.length_map]; exact hm
  have hbm : ∀ x ∈ l.map conv, x.f2.size ≤ 1048576 := by
    intro x hx
    obtain ⟨y, hy, rfl⟩ := List.mem_map.1 hx
    exact hb y hy
  have hw : ∀ x ∈ u ++ v, (Lit.int .i64 x).wf = true := by
    intro x hx
    rcases List.mem_append.1 hx with h | h
    · exact hqu.2 x h
    · exact hqv.2 x h
  refine Ev.bind h1 (Ev.bind h2 (Ev.bind (specPiv_ev r c _ u v _ b hbm hlm hu hv hmm hw) (Ev.bind h1 (Ev.bind h2 (Ev.bind (implPiv_ev r c _ u v _ b hbm hlm hu hv hmm hw) ?_)))))
  simp only [bne_self_eq_false, Bool.false_eq_true, if_false]
  refine Ev.bind h1 (Ev.bind (a := true) ?_ ?_)
  · unfold laws_eqGrid.f
    refine Ev.congr (f := fun k => (laws_eqValueS.f k (l.map conv) (l.map conv)).bind fun t163 => if t163 = true then some true else some false) (fun k => by simp only [if_true]) ?_
    exact Ev.bind (eqValueS_ev _ hlm) (Ev.now true)
  · simp only [if_true]
    refine Ev.bind h2 (Ev.bind (a := true) ?_ (Ev.now true))
    unfold laws_eqPivot.f
    refine Ev.bind hu2 (Ev.congr (fun k => by rw [if_pos rfl]) (Ev.bind hv2 (Ev.congr (fun k => by rw [if_pos rfl]) (Ev.bind (eqMeasureS_ev _ hmm) (Ev.congr (f := fun _ => some true) (fun k => by simp) (Ev.now true))))))

end Go.Proofs.YtjemnnndifeagaaDoor.Pure
