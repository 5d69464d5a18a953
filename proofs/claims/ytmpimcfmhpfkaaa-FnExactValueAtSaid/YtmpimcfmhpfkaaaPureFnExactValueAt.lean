/- The plain law of FnExactValueAt: what the program computes is what the reference computes, for every input (no further condition). -/
import Derived.Test.YtmpimcfmhpfkaaaPFnExactValueAtx2
import Derived.Test.YtmpimcfmhpfkaaaRFnExactValueAt
namespace Go.Proofs.Ytmpimcfmhpfkaaa.Pure
open Go.RowKit Go.Proofs.Ytmpimcfmhpfkaaa.PFnExactValueAt Go.Proofs.YtmpimcfmhpfkaaaW.PrintWords Go.Proofs.YtmpimcfmhpfkaaaW.PrintLast

set_option linter.unusedVariables false
set_option linter.unusedSimpArgs false
/-! plain facts on whole numbers -/
theorem wrap_id {x : Int} (h1 : -9223372036854775808 ≤ x) (h2 : x ≤ 9223372036854775807) : wrap64 x = x := by
  unfold wrap64; omega
theorem td_pos {a b : Int} (h : 0 ≤ a) : a.tdiv b = a / b := Int.tdiv_eq_ediv_of_nonneg h
theorem td_neg {a b : Int} (h : a ≤ 0) : a.tdiv b = -((-a) / b) := by
  rw [← Int.tdiv_eq_ediv_of_nonneg (by omega : 0 ≤ -a), Int.neg_tdiv]; omega
theorem tm_pos {a b : Int} (h : 0 ≤ a) : a.tmod b = a % b := Int.tmod_eq_emod_of_nonneg h
theorem tm_neg {a b : Int} (h : a ≤ 0) : a.tmod b = -((-a) % b) := by
  rw [← Int.tmod_eq_emod_of_nonneg (by omega : 0 ≤ -a), Int.neg_tmod]; omega
theorem tm_zero (a b : Int) : a.tmod b = 0 ↔ a % b = 0 := by
  rw [← Int.dvd_iff_tmod_eq_zero, ← Int.dvd_iff_emod_eq_zero]
theorem ediv_is {a b q r : Int} (hb : 0 < b) (h : a = b * q + r) (h0 : 0 ≤ r) (h1 : r < b) : a / b = q := by
  rw [h, Int.add_comm, Int.add_mul_ediv_left _ _ (by omega), Int.ediv_eq_zero_of_lt h0 h1]; omega
theorem ediv_neg_of {a b : Int} (hb : 0 < b) (h : a.tmod b = 0) : a.tdiv b = a / b := by
  have e := Int.mul_tdiv_add_tmod a b
  rw [h] at e
  exact (ediv_is hb (q := a.tdiv b) (r := 0) (by omega) (by omega) hb).symm
theorem ediv_floor {a b : Int} (hb : 0 < b) (ha : a < 0) (h : a.tmod b ≠ 0) : a.tdiv b - 1 = a / b := by
  have e := Int.mul_tdiv_add_tmod a b
  have hm := tm_neg (a := a) (b := b) (by omega)
  have h0 := Int.emod_nonneg (-a) (by omega : b ≠ 0)
  have h1 := Int.emod_lt_of_pos (-a) hb
  refine (ediv_is hb (q := a.tdiv b - 1) (r := a.tmod b + b) ?_ (by omega) (by omega)).symm
  rw [Int.mul_sub]; omega
/-- The floor, as both programs reckon it. -/
theorem floor_is {a b : Int} (hb : 0 < b) (h1 : -4611686018427387904 ≤ a) (h2 : a ≤ 4611686018427387904) :
    (if b = 0 then (none) else (if (Int.tmod a b) = 0 then (some (wrap64 (Int.tdiv a b))) else (if ((decide (a < 0)) != (decide (b < 0))) = true then (some (wrap64 ((wrap64 (Int.tdiv a b)) - 1))) else (some (wrap64 (Int.tdiv a b)))))) = some (a / b) := by
  have hle : a / b ≤ 4611686018427387904 := by
    by_cases h : 0 ≤ a
    · exact Int.le_trans (Int.ediv_le_self b h) h2
    · have := Int.ediv_neg_of_neg_of_pos (by omega : a < 0) hb; omega
  have hge : -4611686018427387904 ≤ a / b := by
    by_cases h : 0 ≤ a
    · have := Int.ediv_nonneg h (by omega : 0 ≤ b); omega
    · exact Int.le_ediv_of_mul_le hb (by have : -4611686018427387904 * b ≤ -4611686018427387904 * 1 := by omega
                                         omega)
  rw [if_neg (by omega : ¬ b = 0)]
  by_cases hm : Int.tmod a b = 0
  · rw [if_pos hm, ediv_neg_of hb hm, wrap_id (by omega) (by omega)]
  · rw [if_neg hm]
    by_cases ha : a < 0
    · have e := ediv_floor hb ha hm
      rw [if_pos (by simp [ha]; omega), wrap_id (x := Int.tdiv a b) (by omega) (by omega), e, wrap_id (by omega) (by omega)]
    · rw [if_neg (by simp [ha]; omega), td_pos (by omega), wrap_id (by omega) (by omega)]

/-! loops, by what they come to in the end ('Ev') -/
theorem ev_down {ρ : Type} {F : Nat → Int → Option ρ} {r : ρ} (n : Nat) (hs : ∀ i : Nat, i < n → Ev (fun k => F k ((i + 1 : Nat) : Int)) r → Ev (fun k => F k (i : Int)) r)
    (he : Ev (fun k => F k (n : Int)) r) : Ev (fun k => F k 0) r := by
  have h : ∀ d i : Nat, i + d = n → Ev (fun k => F k (i : Int)) r := by
    intro d
    induction d with
    | zero => intro i hi; obtain rfl : i = n := by omega
              exact he
    | succ d ih => intro i hi; exact hs i (by omega) (ih (i + 1) (by omega))
  exact h n 0 (by omega)
theorem ev_ex {ρ : Type} {F : Nat → Int → Option ρ} (n : Nat) (hs : ∀ i : Nat, i < n → (∃ r, Ev (fun k => F k ((i + 1 : Nat) : Int)) r) → ∃ r, Ev (fun k => F k (i : Int)) r)
    (he : ∃ r, Ev (fun k => F k (n : Int)) r) : ∃ r, Ev (fun k => F k 0) r := by
  have h : ∀ d i : Nat, i + d = n → ∃ r, Ev (fun k => F k (i : Int)) r := by
    intro d
    induction d with
    | zero => intro i hi; obtain rfl : i = n := by omega
              exact he
    | succ d ih => intro i hi; exact hs i (by omega) (ih (i + 1) (by omega))
  exact h n 0 (by omega)
theorem ev_to {α β : Type} {F : Nat → List β → Int → Option (List β)} (l : List α) (h : α → β) (z : β)
    (hs : ∀ (acc : List β) (i : Nat) (hi : i < l.length) (r : List β), acc.length = l.length → Ev (fun k => F k (acc.set i (h l[i])) ((i + 1 : Nat) : Int)) r → Ev (fun k => F k acc (i : Int)) r)
    (he : ∀ acc : List β, Ev (fun k => F k acc (l.length : Int)) acc) : Ev (fun k => F k (List.replicate l.length z) 0) (l.map h) := by
  have g : ∀ (d i : Nat) (acc : List β), i + d = l.length → acc.length = l.length → (∀ j : Nat, j < i → acc[j]? = (l.map h)[j]?) → Ev (fun k => F k acc (i : Int)) (l.map h) := by
    intro d
    induction d with
    | zero =>
      intro i acc hi hl hp
      obtain rfl : i = l.length := by omega
      have e : acc = l.map h := by
        refine List.ext_getElem? fun j => ?_
        by_cases hj : j < l.length
        · exact hp j hj
        · rw [List.getElem?_eq_none (by omega), List.getElem?_eq_none (by rw [List.length_map]; omega)]
      have := he acc
      rw [e] at this ⊢; exact this
    | succ d ih =>
      intro i acc hi hl hp
      refine hs acc i (by omega) _ hl (ih (i + 1) _ (by omega) (by rw [List.length_set]; exact hl) fun j hj => ?_)
      rw [List.getElem?_set]
      by_cases e : i = j
      · subst e
        rw [if_pos rfl, if_pos (by omega), List.getElem?_map, List.getElem?_eq_getElem (by omega)]; rfl
      · rw [if_neg e]; exact hp j (by omega)
  exact g l.length 0 _ (by omega) List.length_replicate (fun j hj => absurd hj (by omega))
theorem ev_sz {α : Type} {F : Nat → Int → Int → Option Int} (l : List α) (B : α → Prop)
    (hs : ∀ (i : Nat) (hi : i < l.length) (left : Int), 0 ≤ left → left ≤ 1048576 →
      Ev (fun k => F k left (i : Int)) (-1) ∨ (∃ left', 0 ≤ left' ∧ left' ≤ left ∧ B l[i] ∧ ∀ t, Ev (fun k => F k left' ((i + 1 : Nat) : Int)) t → Ev (fun k => F k left (i : Int)) t))
    (he : ∀ left, Ev (fun k => F k left (l.length : Int)) left) (left : Int) (h0 : 0 ≤ left) (h1 : left ≤ 1048576) :
    Ev (fun k => F k left 0) (-1) ∨ ∃ t, 0 ≤ t ∧ t ≤ left ∧ Ev (fun k => F k left 0) t ∧ ∀ x ∈ l, B x := by
  have g : ∀ (d i : Nat) (left : Int), i + d = l.length → 0 ≤ left → left ≤ 1048576 → Ev (fun k => F k left (i : Int)) (-1) ∨ ∃ t, 0 ≤ t ∧ t ≤ left ∧ Ev (fun k => F k left (i : Int)) t ∧ ∀ j (hj : j < l.length), i ≤ j → B l[j] := by
    intro d
    induction d with
    | zero =>
      intro i left hi h0 h1
      obtain rfl : i = l.length := by omega
      exact .inr ⟨left, h0, Int.le_refl _, he left, fun j hj hij => absurd hj (by omega)⟩
    | succ d ih =>
      intro i left hi h0 h1
      rcases hs i (by omega) left h0 h1 with h | ⟨left', g0, g1, hB, hk⟩
      · exact .inl h
      · rcases ih (i + 1) left' (by omega) g0 (by omega) with h | ⟨t, t0, t1, ht, hb⟩
        · exact .inl (hk _ h)
        · refine .inr ⟨t, t0, by omega, hk _ ht, fun j hj hij => ?_⟩
          by_cases e : i = j
          · subst e; exact hB
          · exact hb j hj (by omega)
  rcases g l.length 0 left (by omega) h0 h1 with h | ⟨t, t0, t1, ht, hb⟩
  · exact .inl h
  · refine .inr ⟨t, t0, t1, ht, fun x hx => ?_⟩
    obtain ⟨j, hj, rfl⟩ := List.getElem_of_mem hx
    exact hb j hj (Nat.zero_le _)
theorem getD_at {α : Type} (l : List α) (z : α) (i : Nat) (h : i < l.length) : l.getD ((i : Int)).toNat z = l[i] := by
  rw [Int.toNat_natCast, List.getD_eq_getElem?_getD, List.getElem?_eq_getElem h]; rfl
theorem ev_all {α : Type} {F : Nat → Int → Option Bool} (l : List α) (p : α → Bool) (b : Bool)
    (hs : ∀ (i : Nat) (hi : i < l.length) (r : Bool), p l[i] = true → Ev (fun k => F k ((i + 1 : Nat) : Int)) r → Ev (fun k => F k (i : Int)) r)
    (hf : ∀ (i : Nat) (hi : i < l.length) (r : Bool), p l[i] = false → Ev (fun k => F k ((i + 1 : Nat) : Int)) r → Ev (fun k => F k (i : Int)) false)
    (he : Ev (fun k => F k (l.length : Int)) b) : Ev (fun k => F k 0) (l.all p && b) := by
  have h : ∀ d i : Nat, i + d = l.length → Ev (fun k => F k (i : Int)) ((l.drop i).all p && b) := by
    intro d
    induction d with
    | zero =>
      intro i hi; obtain rfl : i = l.length := by omega
      rw [List.drop_length]; exact he
    | succ d ih =>
      intro i hi
      have hlt : i < l.length := by omega
      rw [List.drop_eq_getElem_cons hlt, List.all_cons]
      cases hp : p l[i]
      · exact hf i hlt _ hp (ih (i + 1) (by omega))
      · exact hs i hlt _ hp (ih (i + 1) (by omega))
  exact h l.length 0 (by omega)

theorem at115 (l : List S115) (i : Nat) (h : i < l.length) : rd_T115 l (i : Int) = l[i] := getD_at l _ i h
theorem at117 (l : List S117) (i : Nat) (h : i < l.length) : rd_T117 l (i : Int) = l[i] := getD_at l _ i h
def conv (x : S115) : S117 := ⟨x.f0, x.f1, ⟨x.f2.f0, ⟨x.f2.f1.f0, x.f2.f1.f1, x.f2.f1.f2⟩, x.f2.f2⟩, x.f3⟩
theorem toShownS_ev (l : List S115) (hl : l.length ≤ 1048576) : Ev (fun k => laws_toShownS.f k l) (l.map conv) := by
  unfold laws_toShownS.f
  refine Ev.congr (f := fun k => laws_toShownS.l0 k l (List.replicate l.length z117) 0) (fun k => by rw [if_pos (by omega), if_pos (by omega), Int.toNat_natCast]) ?_
  refine ev_to (F := fun k acc i => laws_toShownS.l0 k l acc i) l conv z117 ?_ ?_
  · intro acc i hi r hacc h
    refine Ev.step (fun k => ?_) h
    simp only [laws_toShownS.l0]
    rw [if_pos (by omega), if_pos (by omega), at115 l i hi]
    simp only [laws_toShown.f, laws_toValue.f, laws_toDec.f, Option.bind_some]
    rw [if_pos (by omega), wrap_id (x := (i : Int) + 1) (by omega) (by omega), Int.toNat_natCast]
    rfl
  · intro acc
    refine Ev.step (fun k => ?_) (Ev.now acc)
    simp only [laws_toShownS.l0]
    rw [if_neg (by omega)]
theorem eqDec_is (n : Bool) (d e : Int) : laws_eqDec.f n d e n d e = some true := by unfold laws_eqDec.f; simp
theorem eqValue_is (k : Int) (n : Bool) (d e : Int) (s : ByteArray) : laws_eqValue.f k n d e s k n d e s = some true := by
  unfold laws_eqValue.f; simp [eqDec_is]
theorem eqShownS_ev (l : List S117) (hl : l.length ≤ 1048576) : Ev (fun k => laws_eqShownS.f k l l) true := by
  unfold laws_eqShownS.f
  refine Ev.congr (f := fun k => laws_eqShownS.l0 k l l 0) (fun k => by rw [if_pos rfl]) ?_
  refine ev_down (F := fun k i => laws_eqShownS.l0 k l l i) l.length ?_ ?_
  · intro i hi h
    refine Ev.step (fun k => ?_) h
    simp only [laws_eqShownS.l0]
    rw [if_pos (by omega), if_pos (by omega), if_pos (by omega), at117 l i hi]
    simp only [laws_eqShown.f, eqValue_is, Option.bind_some, if_true, bne_self_eq_false, Bool.false_eq_true, if_false]
    rw [wrap_id (x := (i : Int) + 1) (by omega) (by omega)]
    rfl
  · refine Ev.step (fun k => ?_) (Ev.now true)
    simp only [laws_eqShownS.l0]
    rw [if_neg (by omega)]
theorem szShownS_ev (l : List S115) (hq : QL Q115 l) : Ev (fun k => laws_szShownS.f k l 1048576) (-1) ∨ ∃ t, 0 ≤ t ∧ Ev (fun k => laws_szShownS.f k l 1048576) t ∧ l.length ≤ 1048576 := by
  have hl := hq.1
  unfold laws_szShownS.f
  rw [wrap_id (x := 1048576 - (l.length : Int)) (by omega) (by omega)]
  by_cases h : 1048576 - (l.length : Int) < 0
  · exact .inl (Ev.congr (f := fun _ => some (-1)) (fun k => by rw [if_pos h]) (Ev.now _))
  · have e : ∀ k, (if 1048576 - (l.length : Int) < 0 then some (-1) else laws_szShownS.l0 k l (1048576 - (l.length : Int)) 0) = laws_szShownS.l0 k l (1048576 - (l.length : Int)) 0 := fun k => by rw [if_neg h]
    have := ev_sz (F := fun k left i => laws_szShownS.l0 k l left i) l (fun _ => True) ?_ ?_ (1048576 - (l.length : Int)) (by omega) (by omega)
    · rcases this with h1 | ⟨t, t0, t1, ht, _⟩
      · exact .inl (Ev.congr e h1)
      · exact .inr ⟨t, t0, Ev.congr e ht, by omega⟩
    · intro i hi left h0 h1
      have hs : (l[i]).f2.f2.size ≤ maxLen := (hq.2 _ (List.getElem_mem hi)).2.2.1.2.2
      unfold maxLen at hs
      have w := wrap_id (x := left - ((l[i]).f2.f2.size : Int)) (by omega) (by omega)
      by_cases hneg : left - ((l[i]).f2.f2.size : Int) < 0
      · left
        refine Ev.step (fun k => ?_) (Ev.now (-1))
        simp only [laws_szShownS.l0]
        rw [if_pos (by omega), if_pos (by omega), at115 l i hi]
        simp only [laws_szShown.f, laws_szValue.f, w, if_pos hneg, Option.bind_some]
        rfl
      · right
        refine ⟨left - ((l[i]).f2.f2.size : Int), by omega, by omega, trivial, fun t ht => ?_⟩
        refine Ev.step (fun k => ?_) ht
        simp only [laws_szShownS.l0]
        rw [if_pos (by omega), if_pos (by omega), at115 l i hi]
        simp only [laws_szShown.f, laws_szValue.f, w, if_neg hneg, Option.bind_some]
        rw [wrap_id (x := (i : Int) + 1) (by omega) (by omega)]
        rfl
    · intro left
      refine Ev.step (fun k => ?_) (Ev.now left)
      simp only [laws_szShownS.l0]
      rw [if_neg (by omega)]
theorem valueAt_same : ∀ (k : Nat) (r c : Int) (l : List S117) (n i : Int), impl_ValueAt.l0 k r c l n i = spec_ValueAt.l0 k r c l n i
  | 0, _, _, _, _, _ => rfl
  | k + 1, r, c, l, n, i => by simp only [impl_ValueAt.l0, spec_ValueAt.l0, valueAt_same k]
theorem valueAt_ends (r c : Int) (l : List S117) (hl : l.length ≤ 1048576) : ∃ v, Ev (fun k => spec_ValueAt.f k l r c) v := by
  unfold spec_ValueAt.f
  refine ev_ex (F := fun k i => spec_ValueAt.l0 k r c l (l.length : Int) i) l.length ?_ ?_
  · rintro i hi ⟨v, hv⟩
    by_cases h1 : (rd_T117 l (i : Int)).f0 = r
    · by_cases h2 : (rd_T117 l (i : Int)).f1 = c
      · exact ⟨_, Ev.step (fun k => by
          simp only [spec_ValueAt.l0]
          rw [if_pos (by omega), if_pos (by omega), if_pos (by omega), if_pos h1, if_pos h2]) (Ev.now _)⟩
      · exact ⟨v, Ev.step (fun k => by
          simp only [spec_ValueAt.l0]
          rw [if_pos (by omega), if_pos (by omega), if_pos (by omega), if_pos h1, if_neg h2, wrap_id (x := (i : Int) + 1) (by omega) (by omega)]; rfl) hv⟩
    · exact ⟨v, Ev.step (fun k => by
          simp only [spec_ValueAt.l0]
          rw [if_pos (by omega), if_pos (by omega), if_pos (by omega), if_neg h1, wrap_id (x := (i : Int) + 1) (by omega) (by omega)]; rfl) hv⟩
  · exact ⟨_, Ev.step (fun k => by
      simp only [spec_ValueAt.l0]
      rw [if_neg (by omega)]) (Ev.now _)⟩
theorem FnExactValueAt : ∀ (l0 : (List S115)) (a1 : Int) (a2 : Int), QL Q115 l0 → (Lit.int .i64 a1).wf = true → (Lit.int .i64 a2).wf = true → ∃ k, laws_FnExactValueAt.f k l0 a1 a2 = some true := by
  intro l r c hq _ _
  refine Ev.rounds ?_
  unfold laws_FnExactValueAt.f
  rcases szShownS_ev l hq with h | ⟨t, t0, ht, hl⟩
  · exact Ev.bind h (Ev.congr (f := fun _ => some true) (fun k => by rw [if_pos (by omega)]) (Ev.now true))
  · refine Ev.bind ht (Ev.congr (fun k => by rw [if_neg (by omega : ¬ t < 0)]) ?_)
    have h1 := toShownS_ev l hl
    have hm : (l.map conv).length ≤ 1048576 := by rw [List.length_map]; exact hl
    obtain ⟨⟨v1, v2, v3, v4, v5⟩, hv⟩ := valueAt_ends r c (l.map conv) hm
    have hv' : Ev (fun k => impl_ValueAt.f k (l.map conv) r c) (v1, v2, v3, v4, v5) := Ev.congr (fun k => valueAt_same k r c _ _ _) hv
    refine Ev.bind h1 (Ev.bind hv (Ev.bind h1 (Ev.bind hv' ?_)))
    refine Ev.congr (f := fun k => (laws_toShownS.f k l).bind fun t173 => (laws_eqShownS.f k (l.map conv) t173).bind fun t176 => if t176 = true then some true else some false) (fun k => by simp only [eqValue_is, Option.bind_some, if_true]) ?_
    exact Ev.bind h1 (Ev.bind (eqShownS_ev _ hm) (Ev.now true))

end Go.Proofs.Ytmpimcfmhpfkaaa.Pure
