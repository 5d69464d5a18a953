/- The plain law of FnExactGoodModel: what the program computes is what the reference computes, for every input (no further condition). -/
import Derived.Test.YtaclplimbnihkaaMFnExactGoodModela8
import Derived.Test.YtaclplimbnihkaaRFnExactGoodModel
namespace Go.Proofs.Ytaclplimbnihkaa.Pure
open Go.RowKit Go.Proofs.Ytaclplimbnihkaa.PFnExactGoodModel Go.Proofs.YtaclplimbnihkaaW.PrintWords Go.Proofs.YtaclplimbnihkaaW.PrintLast

set_option linter.unusedVariables false
set_option linter.unusedSimpArgs false
/-! plain facts on whole numbers -/
theorem wrap_id {x : Int} (h1 : -9223372036854775808 ≤ x) (h2 : x ≤ 9223372036854775807) : wrap64 x = x := by
  unfold wrap64; omega
theorem td_pos {a b : Int} (h : 0 ≤ a) : a.tdiv b = a / b := Int.tdiv_eq_ediv_of_nonneg h
theorem td_neg {a b : Int} (h : a ≤ 0) : a.tdiv b = -((-a) / b) := by
  rw [← Int.tdiv_eq_ediv_of_nonneg (by omega : 0 ≤ -a), Int.neg_tdiv]; omega
theorem tm_pos {a b : Int} (h : 0 ≤ a) : a.tmod b = a % b := Int.tmod_eq_emod_of_nonneg h
theorem tm_neg {a b : Int} (h : a ≤ 0) : a.tmod b = -((-a) % b) := by
  rw [← Int.tmod_eq_emod_of_nonneg (by omega : 0 ≤ -a), Int.neg_tmod]; omega
theorem tm_zero (a b : Int) : a.tmod b = 0 ↔ a % b = 0 := by
  rw [← Int.dvd_iff_tmod_eq_zero, ← Int.dvd_iff_emod_eq_zero]
theorem ediv_is {a b q r : Int} (hb : 0 < b) (h : a = b * q + r) (h0 : 0 ≤ r) (h1 : r < b) : a / b = q := by
  rw [h, Int.add_comm, Int.add_mul_ediv_left _ _ (by omega), Int.ediv_eq_zero_of_lt h0 h1]; omega
theorem ediv_neg_of {a b : Int} (hb : 0 < b) (h : a.tmod b = 0) : a.tdiv b = a / b := by
  have e := Int.mul_tdiv_add_tmod a b
  rw [h] at e
  exact (ediv_is hb (q := a.tdiv b) (r := 0) (by omega) (by omega) hb).symm
theorem ediv_floor {a b : Int} (hb : 0 < b) (ha : a < 0) (h : a.tmod b ≠ 0) : a.tdiv b - 1 = a / b := by
  have e := Int.mul_tdiv_add_tmod a b
  have hm := tm_neg (a := a) (b := b) (by omega)
  have h0 := Int.emod_nonneg (-a) (by omega : b ≠ 0)
  have h1 := Int.emod_lt_of_pos (-a) hb
  refine (ediv_is hb (q := a.tdiv b - 1) (r := a.tmod b + b) ?_ (by omega) (by omega)).symm
  rw [Int.mul_sub]; omega
/-- The floor, as both programs reckon it. -/
theorem floor_is {a b : Int} (hb : 0 < b) (h1 : -4611686018427387904 ≤ a) (h2 : a ≤ 4611686018427387904) :
    (if b = 0 then (none) else (if (Int.tmod a b) = 0 then (some (wrap64 (Int.tdiv a b))) else (if ((decide (a < 0)) != (decide (b < 0))) = true then (some (wrap64 ((wrap64 (Int.tdiv a b)) - 1))) else (some (wrap64 (Int.tdiv a b)))))) = some (a / b) := by
  have hle : a / b ≤ 4611686018427387904 := by
    by_cases h : 0 ≤ a
    · exact Int.le_trans (Int.ediv_le_self b h) h2
    · have := Int.ediv_neg_of_neg_of_pos (by omega : a < 0) hb; omega
  have hge : -4611686018427387904 ≤ a / b := by
    by_cases h : 0 ≤ a
    · have := Int.ediv_nonneg h (by omega : 0 ≤ b); omega
    · exact Int.le_ediv_of_mul_le hb (by have : -4611686018427387904 * b ≤ -4611686018427387904 * 1 := by omega
                                         omega)
  rw [if_neg (by omega : ¬ b = 0)]
  by_cases hm : Int.tmod a b = 0
  · rw [if_pos hm, ediv_neg_of hb hm, wrap_id (by omega) (by omega)]
  · rw [if_neg hm]
    by_cases ha : a < 0
    · have e := ediv_floor hb ha hm
      rw [if_pos (by simp [ha]; omega), wrap_id (x := Int.tdiv a b) (by omega) (by omega), e, wrap_id (by omega) (by omega)]
    · rw [if_neg (by simp [ha]; omega), td_pos (by omega), wrap_id (by omega) (by omega)]

/-! loops, by what they come to in the end ('Ev') -/
theorem ev_down {ρ : Type} {F : Nat → Int → Option ρ} {r : ρ} (n : Nat) (hs : ∀ i : Nat, i < n → Ev (fun k => F k ((i + 1 : Nat) : Int)) r → Ev (fun k => F k (i : Int)) r)
    (he : Ev (fun k => F k (n : Int)) r) : Ev (fun k => F k 0) r := by
  have h : ∀ d i : Nat, i + d = n → Ev (fun k => F k (i : Int)) r := by
    intro d
    induction d with
    | zero => intro i hi; obtain rfl : i = n := by omega
              exact he
    | succ d ih => intro i hi; exact hs i (by omega) (ih (i + 1) (by omega))
  exact h n 0 (by omega)
theorem ev_ex {ρ : Type} {F : Nat → Int → Option ρ} (n : Nat) (hs : ∀ i : Nat, i < n → (∃ r, Ev (fun k => F k ((i + 1 : Nat) : Int)) r) → ∃ r, Ev (fun k => F k (i : Int)) r)
    (he : ∃ r, Ev (fun k => F k (n : Int)) r) : ∃ r, Ev (fun k => F k 0) r := by
  have h : ∀ d i : Nat, i + d = n → ∃ r, Ev (fun k => F k (i : Int)) r := by
    intro d
    induction d with
    | zero => intro i hi; obtain rfl : i = n := by omega
              exact he
    | succ d ih => intro i hi; exact hs i (by omega) (ih (i + 1) (by omega))
  exact h n 0 (by omega)
theorem ev_to {α β : Type} {F : Nat → List β → Int → Option (List β)} (l : List α) (h : α → β) (z : β)
    (hs : ∀ (acc : List β) (i : Nat) (hi : i < l.length) (r : List β), acc.length = l.length → Ev (fun k => F k (acc.set i (h l[i])) ((i + 1 : Nat) : Int)) r → Ev (fun k => F k acc (i : Int)) r)
    (he : ∀ acc : List β, Ev (fun k => F k acc (l.length : Int)) acc) : Ev (fun k => F k (List.replicate l.length z) 0) (l.map h) := by
  have g : ∀ (d i : Nat) (acc : List β), i + d = l.length → acc.length = l.length → (∀ j : Nat, j < i → acc[j]? = (l.map h)[j]?) → Ev (fun k => F k acc (i : Int)) (l.map h) := by
    intro d
    induction d with
    | zero =>
      intro i acc hi hl hp
      obtain rfl : i = l.length := by omega
      have e : acc = l.map h := by
        refine List.ext_getElem? fun j => ?_
        by_cases hj : j < l.length
        · exact hp j hj
        · rw [List.getElem?_eq_none (by omega), List.getElem?_eq_none (by rw [List.length_map]; omega)]
      have := he acc
      rw [e] at this ⊢; exact this
    | succ d ih =>
      intro i acc hi hl hp
      refine hs acc i (by omega) _ hl (ih (i + 1) _ (by omega) (by rw [List.length_set]; exact hl) fun j hj => ?_)
      rw [List.getElem?_set]
      by_cases e : i = j
      · subst e
        rw [if_pos rfl, if_pos (by omega), List.getElem?_map, List.getElem?_eq_getElem (by omega)]; rfl
      · rw [if_neg e]; exact hp j (by omega)
  exact g l.length 0 _ (by omega) List.length_replicate (fun j hj => absurd hj (by omega))
theorem ev_sz {α : Type} {F : Nat → Int → Int → Option Int} (l : List α) (B : α → Prop)
    (hs : ∀ (i : Nat) (hi : i < l.length) (left : Int), 0 ≤ left → left ≤ 1048576 →
      Ev (fun k => F k left (i : Int)) (-1) ∨ (∃ left', 0 ≤ left' ∧ left' ≤ left ∧ B l[i] ∧ ∀ t, Ev (fun k => F k left' ((i + 1 : Nat) : Int)) t → Ev (fun k => F k left (i : Int)) t))
    (he : ∀ left, Ev (fun k => F k left (l.length : Int)) left) (left : Int) (h0 : 0 ≤ left) (h1 : left ≤ 1048576) :
    Ev (fun k => F k left 0) (-1) ∨ ∃ t, 0 ≤ t ∧ t ≤ left ∧ Ev (fun k => F k left 0) t ∧ ∀ x ∈ l, B x := by
  have g : ∀ (d i : Nat) (left : Int), i + d = l.length → 0 ≤ left → left ≤ 1048576 → Ev (fun k => F k left (i : Int)) (-1) ∨ ∃ t, 0 ≤ t ∧ t ≤ left ∧ Ev (fun k => F k left (i : Int)) t ∧ ∀ j (hj : j < l.length), i ≤ j → B l[j] := by
    intro d
    induction d with
    | zero =>
      intro i left hi h0 h1
      obtain rfl : i = l.length := by omega
      exact .inr ⟨left, h0, Int.le_refl _, he left, fun j hj hij => absurd hj (by omega)⟩
    | succ d ih =>
      intro i left hi h0 h1
      rcases hs i (by omega) left h0 h1 with h | ⟨left', g0, g1, hB, hk⟩
      · exact .inl h
      · rcases ih (i + 1) left' (by omega) g0 (by omega) with h | ⟨t, t0, t1, ht, hb⟩
        · exact .inl (hk _ h)
        · refine .inr ⟨t, t0, by omega, hk _ ht, fun j hj hij => ?_⟩
          by_cases e : i = j
          · subst e; exact hB
          · exact hb j hj (by omega)
  rcases g l.length 0 left (by omega) h0 h1 with h | ⟨t, t0, t1, ht, hb⟩
  · exact .inl h
  · refine .inr ⟨t, t0, t1, ht, fun x hx => ?_⟩
    obtain ⟨j, hj, rfl⟩ := List.getElem_of_mem hx
    exact hb j hj (Nat.zero_le _)
theorem getD_at {α : Type} (l : List α) (z : α) (i : Nat) (h : i < l.length) : l.getD ((i : Int)).toNat z = l[i] := by
  rw [Int.toNat_natCast, List.getD_eq_getElem?_getD, List.getElem?_eq_getElem h]; rfl
theorem ev_all {α : Type} {F : Nat → Int → Option Bool} (l : List α) (p : α → Bool) (b : Bool)
    (hs : ∀ (i : Nat) (hi : i < l.length) (r : Bool), p l[i] = true → Ev (fun k => F k ((i + 1 : Nat) : Int)) r → Ev (fun k => F k (i : Int)) r)
    (hf : ∀ (i : Nat) (hi : i < l.length) (r : Bool), p l[i] = false → Ev (fun k => F k ((i + 1 : Nat) : Int)) r → Ev (fun k => F k (i : Int)) false)
    (he : Ev (fun k => F k (l.length : Int)) b) : Ev (fun k => F k 0) (l.all p && b) := by
  have h : ∀ d i : Nat, i + d = l.length → Ev (fun k => F k (i : Int)) ((l.drop i).all p && b) := by
    intro d
    induction d with
    | zero =>
      intro i hi; obtain rfl : i = l.length := by omega
      rw [List.drop_length]; exact he
    | succ d ih =>
      intro i hi
      have hlt : i < l.length := by omega
      rw [List.drop_eq_getElem_cons hlt, List.all_cons]
      cases hp : p l[i]
      · exact hf i hlt _ hp (ih (i + 1) (by omega))
      · exact hs i hlt _ hp (ih (i + 1) (by omega))
  exact h l.length 0 (by omega)

def goodDecB (n : Bool) (d e : Int) : Bool := decide ((n = false ∧ d = 0 ∧ e = 0) ∨ (1 ≤ d ∧ d ≤ 999999999999999 ∧ ¬ Int.tmod d 10 = 0 ∧ -300 ≤ e ∧ e ≤ 300))
theorem specGoodDec_is (n : Bool) (d e : Int) : spec_GoodDec.f n d e = some (goodDecB n d e) := by
  unfold spec_GoodDec.f goodDecB
  by_cases h0 : d = 0
  · subst h0; rw [if_pos rfl]
    cases n <;> by_cases he : e = 0 <;> simp [he]
  · rw [if_neg h0]
    by_cases h1 : d > 0
    · by_cases h2 : d < 1000000000000000
      · have h2' : d ≤ 999999999999999 := by omega
        have h1' : 1 ≤ d := by omega
        by_cases h3 : Int.tmod d 10 = 0
        · simp [h0, h1, h2, h3]
        · by_cases h4 : e ≥ -300 <;> by_cases h5 : e ≤ 300 <;> simp [h0, h1, h2, h3, h4, h5, h1', h2']
      · have h2' : ¬ d ≤ 999999999999999 := by omega
        simp [h0, h1, h2, h2']
    · have h1' : ¬ 1 ≤ d := by omega
      simp [h0, h1, h1']
theorem implGoodDec_is (n : Bool) (d e : Int) : impl_isGoodDec.f n d e = some (goodDecB n d e) := by
  unfold impl_isGoodDec.f goodDecB
  by_cases h0 : d = 0
  · subst h0
    cases n <;> by_cases he : e = 0 <;> simp [he]
  · by_cases h1 : 1 ≤ d <;> by_cases h2 : d ≤ 999999999999999 <;> by_cases h3 : Int.tmod d 10 = 0 <;> by_cases h4 : e ≥ -300 <;> by_cases h5 : e ≤ 300 <;> simp [h0, h1, h2, h3, h4, h5]

theorem at154 (l : List S154) (i : Nat) (h : i < l.length) : rd_T154 l (i : Int) = l[i] := getD_at l _ i h
theorem at180 (l : List S180) (i : Nat) (h : i < l.length) : rd_T180 l (i : Int) = l[i] := getD_at l _ i h
theorem at146 (l : List S146) (i : Nat) (h : i < l.length) : rd_T146 l (i : Int) = l[i] := getD_at l _ i h
theorem at148 (l : List S148) (i : Nat) (h : i < l.length) : rd_T148 l (i : Int) = l[i] := getD_at l _ i h
theorem atB (l : List Bool) (i : Nat) (h : i < l.length) : rdOf false l (i : Int) = l[i] := getD_at l _ i h
def convD (x : S154) : S146 := ⟨x.f0, x.f1, x.f2⟩
def convL (x : S180) : S148 := ⟨x.f0.map convD, x.f1, convD x.f2⟩
theorem toDecS_ev (l : List S154) (hl : l.length ≤ 1048576) : Ev (fun k => laws_toDecS.f k l) (l.map convD) := by
  unfold laws_toDecS.f
  refine Ev.congr (f := fun k => laws_toDecS.l0 k l (List.replicate l.length z146) 0) (fun k => by rw [if_pos (by omega), if_pos (by omega), Int.toNat_natCast]) ?_
  refine ev_to (F := fun k acc i => laws_toDecS.l0 k l acc i) l convD z146 ?_ ?_
  · intro acc i hi r hacc h
    refine Ev.step (fun k => ?_) h
    simp only [laws_toDecS.l0]
    rw [if_pos (by omega), if_pos (by omega), at154 l i hi]
    simp only [laws_toDec.f, Option.bind_some]
    rw [if_pos (by omega), wrap_id (x := (i : Int) + 1) (by omega) (by omega), Int.toNat_natCast]
    rfl
  · intro acc
    refine Ev.step (fun k => ?_) (Ev.now acc)
    simp only [laws_toDecS.l0]
    rw [if_neg (by omega)]
theorem toLimitS_ev (l : List S180) (hl : l.length ≤ 1048576) (hB : ∀ x ∈ l, x.f0.length ≤ 1048576) : Ev (fun k => laws_toLimitS.f k l) (l.map convL) := by
  unfold laws_toLimitS.f
  refine Ev.congr (f := fun k => laws_toLimitS.l0 k l (List.replicate l.length z148) 0) (fun k => by rw [if_pos (by omega), if_pos (by omega), Int.toNat_natCast]) ?_
  refine ev_to (F := fun k acc i => laws_toLimitS.l0 k l acc i) l convL z148 ?_ ?_
  · intro acc i hi r hacc h
    refine Ev.step (f := fun k => (laws_toDecS.f k (l[i]).f0).bind fun t => laws_toLimitS.l0 k l (acc.set i (⟨t, (l[i]).f1, convD (l[i]).f2⟩ : S148)) ((i + 1 : Nat) : Int)) (fun k => ?_) ?_
    · simp only [laws_toLimitS.l0]
      rw [if_pos (by omega), if_pos (by omega), at180 l i hi]
      simp only [laws_toLimit.f, laws_toDec.f, Option.bind_some]
      rw [wrap_id (x := (i : Int) + 1) (by omega) (by omega), Int.toNat_natCast]
      cases laws_toDecS.f k (l[i]).f0 with
      | none => rfl
      | some t => simp only [Option.bind_some]; rw [if_pos (by omega)]; rfl
    · exact Ev.bind (toDecS_ev _ (hB _ (List.getElem_mem hi))) h
  · intro acc
    refine Ev.step (fun k => ?_) (Ev.now acc)
    simp only [laws_toLimitS.l0]
    rw [if_neg (by omega)]
theorem toBoolS_ev (l : List Bool) (hl : l.length ≤ 1048576) : Ev (fun k => laws_toBoolS.f k l) l := by
  unfold laws_toBoolS.f
  refine Ev.congr (f := fun k => laws_toBoolS.l0 k l (List.replicate l.length false) 0) (fun k => by rw [if_pos (by omega), if_pos (by omega), Int.toNat_natCast]) ?_
  have h := ev_to (F := fun k acc i => laws_toBoolS.l0 k l acc i) l id false ?_ ?_
  · rw [List.map_id] at h; exact h
  · intro acc i hi r hacc h
    refine Ev.step (fun k => ?_) h
    simp only [laws_toBoolS.l0]
    rw [if_pos (by omega), if_pos (by omega), if_pos (by omega), atB l i hi, wrap_id (x := (i : Int) + 1) (by omega) (by omega), Int.toNat_natCast]
    rfl
  · intro acc
    refine Ev.step (fun k => ?_) (Ev.now acc)
    simp only [laws_toBoolS.l0]
    rw [if_neg (by omega)]
theorem eqDec_is (n : Bool) (d e : Int) : laws_eqDec.f n d e n d e = some true := by unfold laws_eqDec.f; simp
theorem eqDecS_ev (l : List S146) (hl : l.length ≤ 1048576) : Ev (fun k => laws_eqDecS.f k l l) true := by
  unfold laws_eqDecS.f
  refine Ev.congr (f := fun k => laws_eqDecS.l0 k l l 0) (fun k => by rw [if_pos rfl]) ?_
  refine ev_down (F := fun k i => laws_eqDecS.l0 k l l i) l.length ?_ ?_
  · intro i hi h
    refine Ev.step (fun k => ?_) h
    simp only [laws_eqDecS.l0]
    rw [if_pos (by omega), if_pos (by omega), if_pos (by omega), eqDec_is]
    simp only [Option.bind_some, if_true]
    rw [wrap_id (x := (i : Int) + 1) (by omega) (by omega)]; rfl
  · refine Ev.step (fun k => ?_) (Ev.now true)
    simp only [laws_eqDecS.l0]
    rw [if_neg (by omega)]
theorem eqLimitS_ev (l : List S148) (hl : l.length ≤ 1048576) (hB : ∀ x ∈ l, x.f0.length ≤ 1048576) : Ev (fun k => laws_eqLimitS.f k l l) true := by
  unfold laws_eqLimitS.f
  refine Ev.congr (f := fun k => laws_eqLimitS.l0 k l l 0) (fun k => by rw [if_pos rfl]) ?_
  refine ev_down (F := fun k i => laws_eqLimitS.l0 k l l i) l.length ?_ ?_
  · intro i hi h
    refine Ev.step (f := fun k => (laws_eqDecS.f k (l[i]).f0 (l[i]).f0).bind fun t => if t = true then laws_eqLimitS.l0 k l l ((i + 1 : Nat) : Int) else some false) (fun k => ?_) ?_
    · simp only [laws_eqLimitS.l0]
      rw [if_pos (by omega), if_pos (by omega), if_pos (by omega), at148 l i hi]
      simp only [laws_eqLimit.f, eqDec_is, Option.bind_some, if_true]
      rw [wrap_id (x := (i : Int) + 1) (by omega) (by omega)]
      cases laws_eqDecS.f k (l[i]).f0 (l[i]).f0 with
      | none => rfl
      | some t => cases t <;> rfl
    · refine Ev.bind (eqDecS_ev _ (hB _ (List.getElem_mem hi))) ?_
      exact Ev.congr (fun k => by rw [if_pos rfl]) h
  · refine Ev.step (fun k => ?_) (Ev.now true)
    simp only [laws_eqLimitS.l0]
    rw [if_neg (by omega)]
theorem eqBoolS_ev (l : List Bool) (hl : l.length ≤ 1048576) : Ev (fun k => laws_eqBoolS.f k l l) true := by
  unfold laws_eqBoolS.f
  refine Ev.congr (f := fun k => laws_eqBoolS.l0 k l l 0) (fun k => by rw [if_pos rfl]) ?_
  refine ev_down (F := fun k i => laws_eqBoolS.l0 k l l i) l.length ?_ ?_
  · intro i hi h
    refine Ev.step (fun k => ?_) h
    simp only [laws_eqBoolS.l0]
    rw [if_pos (by omega), if_pos (by omega), if_pos (by omega)]
    simp only [bne_self_eq_false, Bool.false_eq_true, if_false]
    rw [wrap_id (x := (i : Int) + 1) (by omega) (by omega)]; rfl
  · refine Ev.step (fun k => ?_) (Ev.now true)
    simp only [laws_eqBoolS.l0]
    rw [if_neg (by omega)]
theorem szDecS_is (l : List S154) (hl : l.length ≤ 9223372036854775807) (left : Int) (h0 : 0 ≤ left) (h1 : left ≤ 1048576) :
    laws_szDecS.f l left = some (if left - (l.length : Int) < 0 then -1 else left - (l.length : Int)) := by
  unfold laws_szDecS.f
  rw [wrap_id (x := left - (l.length : Int)) (by omega) (by omega)]
  split <;> rfl
theorem szLimitS_ev (l : List S180) (hq : QL Q180 l) (left : Int) (h0 : 0 ≤ left) (h1 : left ≤ 1048576) :
    Ev (fun k => laws_szLimitS.f k l left) (-1) ∨ ∃ t, 0 ≤ t ∧ t ≤ left ∧ Ev (fun k => laws_szLimitS.f k l left) t ∧ l.length ≤ 1048576 ∧ ∀ x ∈ l, x.f0.length ≤ 1048576 := by
  have hl := hq.1
  unfold laws_szLimitS.f
  rw [wrap_id (x := left - (l.length : Int)) (by omega) (by omega)]
  by_cases h : left - (l.length : Int) < 0
  · exact .inl (Ev.congr (f := fun _ => some (-1)) (fun k => by rw [if_pos h]) (Ev.now _))
  · have e : ∀ k, (if left - (l.length : Int) < 0 then some (-1) else laws_szLimitS.l0 k l (left - (l.length : Int)) 0) = laws_szLimitS.l0 k l (left - (l.length : Int)) 0 := fun k => by rw [if_neg h]
    have := ev_sz (F := fun k left i => laws_szLimitS.l0 k l left i) l (fun x => x.f0.length ≤ 1048576) ?_ ?_ (left - (l.length : Int)) (by omega) (by omega)
    · rcases this with h1 | ⟨t, t0, t1, ht, hb⟩
      · exact .inl (Ev.congr e h1)
      · exact .inr ⟨t, t0, by omega, Ev.congr e ht, by omega, hb⟩
    · intro i hi left h0 h1
      obtain ⟨q0, q1, _⟩ := hq.2 _ (List.getElem_mem hi)
      have hl0 := q0.1
      have hs : (l[i]).f1.size ≤ maxLen := q1
      unfold maxLen at hs
      have z := szDecS_is (l[i]).f0 hl0 left h0 h1
      by_cases hneg : left - ((l[i]).f0.length : Int) < 0
      · left
        rw [if_pos hneg] at z
        refine Ev.step (fun k => ?_) (Ev.now (-1))
        simp only [laws_szLimitS.l0]
        rw [if_pos (by omega), if_pos (by omega), at180 l i hi]
        simp only [laws_szLimit.f, z, Option.bind_some]
        rfl
      · rw [if_neg hneg] at z
        have w := wrap_id (x := left - ((l[i]).f0.length : Int) - ((l[i]).f1.size : Int)) (by omega) (by omega)
        by_cases hneg2 : left - ((l[i]).f0.length : Int) - ((l[i]).f1.size : Int) < 0
        · left
          refine Ev.step (fun k => ?_) (Ev.now (-1))
          simp only [laws_szLimitS.l0]
          rw [if_pos (by omega), if_pos (by omega), at180 l i hi]
          simp only [laws_szLimit.f, z, Option.bind_some, if_neg hneg, w, if_pos hneg2]
          rfl
        · right
          refine ⟨left - ((l[i]).f0.length : Int) - ((l[i]).f1.size : Int), by omega, by omega, by omega, fun t ht => ?_⟩
          refine Ev.step (fun k => ?_) ht
          simp only [laws_szLimitS.l0]
          rw [if_pos (by omega), if_pos (by omega), at180 l i hi]
          simp only [laws_szLimit.f, z, Option.bind_some, if_neg hneg, w, if_neg hneg2]
          rw [wrap_id (x := (i : Int) + 1) (by omega) (by omega)]
          rfl
    · intro left
      refine Ev.step (fun k => ?_) (Ev.now left)
      simp only [laws_szLimitS.l0]
      rw [if_neg (by omega)]
theorem szModel_ev (l0 : List S154) (l1 : List S180) (l2 : List Bool) (q0 : QL Q154 l0) (q1 : QL Q180 l1) (q2 : QL QB l2) :
    Ev (fun k => laws_szModel.f k l0 l1 l2 1048576) (-1) ∨ ∃ t, 0 ≤ t ∧ Ev (fun k => laws_szModel.f k l0 l1 l2 1048576) t ∧ l0.length ≤ 1048576 ∧ l1.length ≤ 1048576 ∧ (∀ x ∈ l1, x.f0.length ≤ 1048576) ∧ l2.length ≤ 1048576 := by
  unfold laws_szModel.f
  rw [szDecS_is l0 q0.1 1048576 (by omega) (by omega)]
  simp only [Option.bind_some]
  have g2 := q2.1
  by_cases h : (1048576 : Int) - (l0.length : Int) < 0
  · rw [if_pos h]; exact .inl (Ev.now (-1))
  · simp only [if_neg h]
    rcases szLimitS_ev l1 q1 (1048576 - (l0.length : Int)) (by omega) (by omega) with hh | ⟨t, t0, t1, ht, b1, b2⟩
    · exact .inl (Ev.bind hh (Ev.now (-1)))
    · have w := wrap_id (x := t - (l2.length : Int)) (by omega) (by omega)
      by_cases h3 : t - (l2.length : Int) < 0
      · exact .inl (Ev.bind ht (Ev.congr (f := fun _ => some (-1)) (fun k => by
          rw [if_neg (by omega)]; simp only [laws_szBoolS.f, w, if_pos h3, Option.bind_some]; rfl) (Ev.now (-1))))
      · exact .inr ⟨t - (l2.length : Int), by omega, Ev.bind ht (Ev.congr (f := fun _ => some (t - (l2.length : Int))) (fun k => by
          rw [if_neg (by omega)]; simp only [laws_szBoolS.f, w, if_neg h3, Option.bind_some]) (Ev.now _)), by omega, b1, b2, by omega⟩
def smallB (n : Bool) (d e : Int) : Bool := goodDecB n d e && decide (d ≤ 999999 ∧ -6 ≤ e ∧ e ≤ 6)
theorem specSmall_is (n : Bool) (d e : Int) : spec_l13Small.f n d e = some (smallB n d e) := by
  unfold spec_l13Small.f smallB
  simp only [specGoodDec_is, Option.bind_some]
  cases goodDecB n d e
  · simp
  · by_cases h1 : d < 1000000
    · have h1' : d ≤ 999999 := by omega
      by_cases h2 : e ≥ -6 <;> simp [h1, h2, h1']
    · have h1' : ¬ d ≤ 999999 := by omega
      simp [h1, h1']
theorem implSmall_is (n : Bool) (d e : Int) : impl_smallDec.f n d e = some (smallB n d e) := by
  unfold impl_smallDec.f smallB
  simp only [implGoodDec_is, Option.bind_some]
  cases hg : goodDecB n d e
  · simp
  · by_cases h1 : d ≤ 999999
    · by_cases h0 : d = 0
      · have he : e = 0 := by
          unfold goodDecB at hg
          have := of_decide_eq_true hg
          omega
        simp [h0, he]
      · by_cases h2 : e ≥ -6 <;> simp [h1, h2, h0]
    · simp [h1]
def allSmall (l : List S146) : Bool := l.all fun x => smallB x.f0 x.f1 x.f2
def opB (s : ByteArray) : Bool := s.toList == [60, 61] || (s.toList == [62, 61] || s.toList == [61])
def limB (n : Nat) (x : S148) : Bool := decide (x.f0.length = n) && (smallB x.f2.f0 x.f2.f1 x.f2.f2 && (opB x.f1 && allSmall x.f0))
theorem smallDecs_ev (l : List S146) (hl : l.length ≤ 1048576) (n : Nat) : Ev (fun k => impl_smallDecs.f k l (n : Int)) (decide (l.length = n) && allSmall l) := by
  unfold impl_smallDecs.f
  by_cases h : l.length = n
  · rw [decide_eq_true h]
    refine Ev.congr (f := fun k => impl_smallDecs.l0 k l (l.length : Int) 0) (fun k => by rw [if_pos (by omega)]) ?_
    have := ev_all (F := fun k i => impl_smallDecs.l0 k l (l.length : Int) i) l (fun x => smallB x.f0 x.f1 x.f2) true ?_ ?_ ?_
    · unfold allSmall; simpa using this
    · intro i hi r hp h
      refine Ev.step (fun k => ?_) h
      simp only [impl_smallDecs.l0]
      rw [if_pos (by omega), if_pos (by omega), if_pos (by omega), at146 l i hi, implSmall_is, hp]
      simp only [Option.bind_some, if_true]
      rw [wrap_id (x := (i : Int) + 1) (by omega) (by omega)]; rfl
    · intro i hi _ hp _
      refine Ev.step (fun k => ?_) (Ev.now false)
      simp only [impl_smallDecs.l0]
      rw [if_pos (by omega), if_pos (by omega), if_pos (by omega), at146 l i hi, implSmall_is, hp]
      rfl
    · refine Ev.step (fun k => ?_) (Ev.now true)
      simp only [impl_smallDecs.l0]
      rw [if_neg (by omega)]
  · rw [decide_eq_false h]
    exact Ev.congr (f := fun _ => some false) (fun k => by rw [if_neg (by omega)]) (Ev.now false)
theorem op_cases (s : ByteArray) (x y : Option Bool) : (if s.toList = [60, 61] then x else (if s.toList = [62, 61] then x else (if s.toList = [61] then x else y))) = if opB s = true then x else y := by
  unfold opB
  by_cases h1 : s.toList = [60, 61]
  · simp [h1]
  · by_cases h2 : s.toList = [62, 61]
    · simp [h2]
    · by_cases h3 : s.toList = [61] <;> simp [h1, h2, h3]
theorem implLims_ev (l : List S148) (hl : l.length ≤ 1048576) (hB : ∀ x ∈ l, x.f0.length ≤ 1048576) (n : Nat) : Ev (fun k => impl_GoodModel.l0 k (n : Int) l (l.length : Int) 0) (l.all (limB n)) := by
  have := ev_all (F := fun k i => impl_GoodModel.l0 k (n : Int) l (l.length : Int) i) l (limB n) true ?_ ?_ ?_
  · simpa using this
  · intro i hi r hp h
    have hd := smallDecs_ev (l[i]).f0 (hB _ (List.getElem_mem hi)) n
    unfold limB at hp
    simp only [Bool.and_eq_true] at hp
    obtain ⟨p1, p2, p3, p4⟩ := hp
    rw [p1, p4, Bool.true_and] at hd
    refine Ev.step (f := fun k => (impl_smallDecs.f k (l[i]).f0 (n : Int)).bind fun t => if t = true then impl_GoodModel.l0 k (n : Int) l (l.length : Int) ((i + 1 : Nat) : Int) else some false) (fun k => ?_) ?_
    · simp only [impl_GoodModel.l0]
      rw [if_pos (by omega), if_pos (by omega), if_pos (by omega), at148 l i hi]
      simp only [implSmall_is, p2, Option.bind_some, if_true, op_cases, p3]
      rw [wrap_id (x := (i : Int) + 1) (by omega) (by omega)]; rfl
    · exact Ev.bind hd (Ev.congr (fun k => by rw [if_pos rfl]) h)
  · intro i hi _ hp _
    have hd := smallDecs_ev (l[i]).f0 (hB _ (List.getElem_mem hi)) n
    unfold limB at hp
    refine Ev.step (f := fun k => (impl_smallDecs.f k (l[i]).f0 (n : Int)).bind fun t => if t = true then (if smallB (l[i]).f2.f0 (l[i]).f2.f1 (l[i]).f2.f2 = true then (if opB (l[i]).f1 = true then impl_GoodModel.l0 k (n : Int) l (l.length : Int) ((i + 1 : Nat) : Int) else some false) else some false) else some false) (fun k => ?_) ?_
    · simp only [impl_GoodModel.l0]
      rw [if_pos (by omega), if_pos (by omega), if_pos (by omega), at148 l i hi]
      simp only [implSmall_is, Option.bind_some, op_cases]
      rw [wrap_id (x := (i : Int) + 1) (by omega) (by omega)]; rfl
    · refine Ev.bind hd ?_
      cases h1 : (decide ((l[i]).f0.length = n) && allSmall (l[i]).f0)
      · exact Ev.now false
      · rw [Bool.and_eq_true] at h1
        rw [h1.1, h1.2] at hp
        refine Ev.congr (f := fun _ => some false) (fun k => ?_) (Ev.now false)
        cases h2 : smallB (l[i]).f2.f0 (l[i]).f2.f1 (l[i]).f2.f2
        · simp
        · rw [h2] at hp
          have : opB (l[i]).f1 = false := by simpa using hp
          simp [this]
  · refine Ev.step (fun k => ?_) (Ev.now true)
    simp only [impl_GoodModel.l0]
    rw [if_neg (by omega)]
theorem specLims_ev (l : List S148) (hl : l.length ≤ 1048576) (hB : ∀ x ∈ l, x.f0.length ≤ 1048576) (n : Nat) : Ev (fun k => spec_l13Good.l1 k (n : Int) l (l.length : Int) 0) (l.all (limB n)) := by
  have inner : ∀ (i : Nat) (hi : i < l.length) (r : Bool), Ev (fun k => spec_l13Good.l1 k (n : Int) l (l.length : Int) ((i + 1 : Nat) : Int)) r →
      Ev (fun k => spec_l13Good.l2 k (n : Int) l (l.length : Int) (i : Int) (l[i]).f0 ((l[i]).f0.length : Int) 0) (allSmall (l[i]).f0 && r) := by
    intro i hi r hr
    have hb := hB _ (List.getElem_mem hi)
    refine ev_all (F := fun k j => spec_l13Good.l2 k (n : Int) l (l.length : Int) (i : Int) (l[i]).f0 ((l[i]).f0.length : Int) j) (l[i]).f0 (fun x => smallB x.f0 x.f1 x.f2) r ?_ ?_ ?_
    · intro j hj r hp h
      refine Ev.step (fun k => ?_) h
      simp only [spec_l13Good.l2]
      rw [if_pos (by omega), if_pos (by omega), if_pos (by omega), at146 _ j hj, specSmall_is, hp]
      simp only [Option.bind_some, if_true]
      rw [wrap_id (x := (j : Int) + 1) (by omega) (by omega)]; rfl
    · intro j hj _ hp _
      refine Ev.step (fun k => ?_) (Ev.now false)
      simp only [spec_l13Good.l2]
      rw [if_pos (by omega), if_pos (by omega), if_pos (by omega), at146 _ j hj, specSmall_is, hp]
      rfl
    · refine Ev.step (fun k => ?_) hr
      simp only [spec_l13Good.l2]
      rw [if_neg (by omega), wrap_id (x := (i : Int) + 1) (by omega) (by omega)]; rfl
  have body : ∀ (i : Nat) (hi : i < l.length) (k : Nat), spec_l13Good.l1 (k + 2) (n : Int) l (l.length : Int) (i : Int) = if (decide ((l[i]).f0.length = n) && (smallB (l[i]).f2.f0 (l[i]).f2.f1 (l[i]).f2.f2 && opB (l[i]).f1)) = true then spec_l13Good.l2 k (n : Int) l (l.length : Int) (i : Int) (l[i]).f0 ((l[i]).f0.length : Int) 0 else some false := by
    intro i hi k
    simp only [spec_l13Good.l1]
    rw [if_pos (by omega), if_pos (by omega), if_pos (by omega), at148 l i hi]
    simp only [specSmall_is, Option.bind_some, spec_l13Good.j3]
    by_cases h1 : (l[i]).f0.length = n
    · rw [if_pos (by omega), decide_eq_true h1]
      cases h2 : smallB (l[i]).f2.f0 (l[i]).f2.f1 (l[i]).f2.f2
      · simp
      · unfold opB
        by_cases h3 : (l[i]).f1.toList = [60, 61]
        · simp [h3]
        · by_cases h4 : (l[i]).f1.toList = [62, 61]
          · simp [h4]
          · by_cases h5 : (l[i]).f1.toList = [61] <;> simp [h3, h4, h5]
    · rw [if_neg (by omega), decide_eq_false h1]; simp
  have := ev_all (F := fun k i => spec_l13Good.l1 k (n : Int) l (l.length : Int) i) l (limB n) true ?_ ?_ ?_
  · simpa using this
  · intro i hi r hp h
    unfold limB at hp
    simp only [Bool.and_eq_true] at hp
    obtain ⟨p1, p2, p3, p4⟩ := hp
    have hin := inner i hi r h
    rw [p4, Bool.true_and] at hin
    refine Ev.step (f := fun k => spec_l13Good.l1 (k + 1) (n : Int) l (l.length : Int) (i : Int)) (fun k => rfl) (Ev.step (fun k => ?_) hin)
    rw [body i hi k, if_pos (by rw [p1, p2, p3]; rfl)]
  · intro i hi r hp hr
    have hin := inner i hi r hr
    unfold limB at hp
    cases h1 : (decide ((l[i]).f0.length = n) && (smallB (l[i]).f2.f0 (l[i]).f2.f1 (l[i]).f2.f2 && opB (l[i]).f1))
    · exact Ev.step (f := fun k => spec_l13Good.l1 (k + 1) (n : Int) l (l.length : Int) (i : Int)) (fun k => rfl) (Ev.step (f := fun _ => some false) (fun k => by rw [body i hi k, if_neg (by rw [h1]; decide)]) (Ev.now false))
    · have h2 : allSmall (l[i]).f0 = false := by
        simp only [Bool.and_eq_true] at h1
        rw [h1.1, h1.2.1, h1.2.2] at hp
        simpa using hp
      rw [h2, Bool.false_and] at hin
      exact Ev.step (f := fun k => spec_l13Good.l1 (k + 1) (n : Int) l (l.length : Int) (i : Int)) (fun k => rfl) (Ev.step (fun k => by rw [body i hi k, if_pos h1]) hin)
  · refine Ev.step (fun k => ?_) (Ev.now true)
    simp only [spec_l13Good.l1]
    rw [if_neg (by omega)]
/-- What GoodModel says. -/
def modelB (l0 : List S146) (l1 : List S148) (l2 : List Bool) : Bool :=
  decide (1 ≤ l0.length ∧ l0.length ≤ 8 ∧ l1.length ≤ 12 ∧ (l2.length = 0 ∨ l2.length = l0.length)) && (allSmall l0 && l1.all (limB l0.length))
theorem specModel_ev (l0 : List S146) (l1 : List S148) (l2 : List Bool) (h0 : l0.length ≤ 1048576) (h1 : l1.length ≤ 1048576) (hB : ∀ x ∈ l1, x.f0.length ≤ 1048576) : Ev (fun k => spec_GoodModel.f k l0 l1 l2) (modelB l0 l1 l2) := by
  have hl := specLims_ev l1 h1 hB l0.length
  have hd : Ev (fun k => spec_l13Good.l0 k (l0.length : Int) l0 (l0.length : Int) 0 l0 l1 l2) (allSmall l0 && l1.all (limB l0.length)) := by
    refine ev_all (F := fun k i => spec_l13Good.l0 k (l0.length : Int) l0 (l0.length : Int) i l0 l1 l2) l0 (fun x => smallB x.f0 x.f1 x.f2) (l1.all (limB l0.length)) ?_ ?_ ?_
    · intro j hj r hp h
      refine Ev.step (fun k => ?_) h
      simp only [spec_l13Good.l0]
      rw [if_pos (by omega), if_pos (by omega), if_pos (by omega), at146 _ j hj, specSmall_is, hp]
      simp only [Option.bind_some, if_true]
      rw [wrap_id (x := (j : Int) + 1) (by omega) (by omega)]; rfl
    · intro j hj _ hp _
      refine Ev.step (fun k => ?_) (Ev.now false)
      simp only [spec_l13Good.l0]
      rw [if_pos (by omega), if_pos (by omega), if_pos (by omega), at146 _ j hj, specSmall_is, hp]
      rfl
    · refine Ev.step (fun k => ?_) hl
      simp only [spec_l13Good.l0]
      rw [if_neg (by omega)]
  have jt : Ev (fun k => spec_l13Good.j0 k (l0.length : Int) true l0 l1 l2) false := Ev.step (f := fun _ => some false) (fun k => by simp only [spec_l13Good.j0, if_true]) (Ev.now false)
  have jf : Ev (fun k => spec_l13Good.j0 k (l0.length : Int) false l0 l1 l2) (allSmall l0 && l1.all (limB l0.length)) := Ev.step (fun k => by simp only [spec_l13Good.j0]; rw [if_neg (by decide)]) hd
  unfold spec_GoodModel.f
  refine Ev.bind (a := modelB l0 l1 l2) ?_ (Ev.now _)
  unfold spec_l13Good.f modelB
  by_cases c1 : (l0.length : Int) < 1
  · rw [decide_eq_false (by omega), Bool.false_and]; exact Ev.congr (fun k => by rw [if_pos c1]) jt
  by_cases c2 : (l0.length : Int) > 8
  · rw [decide_eq_false (by omega), Bool.false_and]; exact Ev.congr (fun k => by rw [if_neg c1, if_pos c2]) jt
  by_cases c3 : (l1.length : Int) > 12
  · rw [decide_eq_false (by omega), Bool.false_and]; exact Ev.congr (fun k => by rw [if_neg c1, if_neg c2, if_pos c3]) jt
  by_cases c4 : (l2.length : Int) = 0
  · rw [decide_eq_true (by omega), Bool.true_and]; exact Ev.congr (fun k => by rw [if_neg c1, if_neg c2, if_neg c3, if_pos c4]) jf
  by_cases c5 : (l2.length : Int) = (l0.length : Int)
  · rw [decide_eq_true (by omega), Bool.true_and]; exact Ev.congr (fun k => by rw [if_neg c1, if_neg c2, if_neg c3, if_neg c4, bne_eq_false_iff_eq.2 c5]) jf
  · rw [decide_eq_false (by omega), Bool.false_and]; exact Ev.congr (fun k => by rw [if_neg c1, if_neg c2, if_neg c3, if_neg c4, bne_iff_ne.2 c5]) jt
theorem implModel_ev (l0 : List S146) (l1 : List S148) (l2 : List Bool) (h0 : l0.length ≤ 1048576) (h1 : l1.length ≤ 1048576) (hB : ∀ x ∈ l1, x.f0.length ≤ 1048576) : Ev (fun k => impl_GoodModel.f k l0 l1 l2) (modelB l0 l1 l2) := by
  have hl := implLims_ev l1 h1 hB l0.length
  have hd := smallDecs_ev l0 h0 l0.length
  rw [decide_eq_true rfl, Bool.true_and] at hd
  have jt : Ev (fun k => impl_GoodModel.j0 k (l0.length : Int) true l0 l1 l2) false := Ev.step (f := fun _ => some false) (fun k => by simp only [impl_GoodModel.j0, if_true]) (Ev.now false)
  have jf : Ev (fun k => impl_GoodModel.j0 k (l0.length : Int) false l0 l1 l2) (l1.all (limB l0.length)) := Ev.step (fun k => by simp only [impl_GoodModel.j0]; rw [if_neg (by decide)]) hl
  unfold impl_GoodModel.f modelB
  by_cases c1 : (l0.length : Int) < 1
  · rw [decide_eq_false (by omega), Bool.false_and]; exact Ev.congr (fun k => by rw [if_pos c1]) jt
  by_cases c2 : (l0.length : Int) > 8
  · rw [decide_eq_false (by omega), Bool.false_and]; exact Ev.congr (fun k => by rw [if_neg c1, if_pos c2]) jt
  by_cases c3 : (l1.length : Int) > 12
  · rw [decide_eq_false (by omega), Bool.false_and]; exact Ev.congr (fun k => by rw [if_neg c1, if_neg c2, if_pos c3]) jt
  refine Ev.congr (fun k => by rw [if_neg c1, if_neg c2, if_neg c3]) (Ev.bind hd ?_)
  cases hs : allSmall l0
  · rw [Bool.false_and, Bool.and_false]; exact Ev.congr (fun k => by rw [if_neg (by decide)]) jt
  · rw [Bool.true_and]
    by_cases c4 : (l2.length : Int) = 0
    · rw [decide_eq_true (by omega), Bool.true_and]; exact Ev.congr (fun k => by rw [if_pos rfl, if_pos c4]) jf
    by_cases c5 : (l2.length : Int) = (l0.length : Int)
    · rw [decide_eq_true (by omega), Bool.true_and]; exact Ev.congr (fun k => by rw [if_pos rfl, if_neg c4, bne_eq_false_iff_eq.2 c5]) jf
    · rw [decide_eq_false (by omega), Bool.false_and]; exact Ev.congr (fun k => by rw [if_pos rfl, if_neg c4, bne_iff_ne.2 c5]) jt
theorem FnExactGoodModel : ∀ (l0_0 : (List S154)) (l0_1 : (List S180)) (l0_2 : (List Bool)), QL Q154 l0_0 → QL Q180 l0_1 → QL QB l0_2 → ∃ k, laws_FnExactGoodModel.f k l0_0 l0_1 l0_2 = some true := by
  intro l0 l1 l2 q0 q1 q2
  refine Ev.rounds ?_
  unfold laws_FnExactGoodModel.f
  rcases szModel_ev l0 l1 l2 q0 q1 q2 with h | ⟨t, t0, ht, b0, b1, b2, b3⟩
  · exact Ev.bind h (Ev.congr (f := fun _ => some true) (fun k => by rw [if_pos (by omega)]) (Ev.now true))
  · refine Ev.bind ht (Ev.congr (fun k => by rw [if_neg (by omega : ¬ t < 0)]) ?_)
    have m0 : (l0.map convD).length ≤ 1048576 := by rw [List.length_map]; exact b0
    have m1 : (l1.map convL).length ≤ 1048576 := by rw [List.length_map]; exact b1
    have mB : ∀ x ∈ l1.map convL, x.f0.length ≤ 1048576 := by
      intro x hx
      obtain ⟨y, hy, rfl⟩ := List.mem_map.1 hx
      show (y.f0.map convD).length ≤ 1048576
      rw [List.length_map]; exact b2 y hy
    have ht : Ev (fun k => laws_toModel.f k l0 l1 l2) (l0.map convD, l1.map convL, l2) := by
      unfold laws_toModel.f
      exact Ev.bind (toDecS_ev l0 b0) (Ev.bind (toLimitS_ev l1 b1 b2) (Ev.bind (toBoolS_ev l2 b3) (Ev.now _)))
    have he : Ev (fun k => laws_eqModel.f k (l0.map convD) (l1.map convL) l2 (l0.map convD) (l1.map convL) l2) true := by
      unfold laws_eqModel.f
      refine Ev.bind (eqDecS_ev _ m0) (Ev.congr (fun k => by rw [if_pos rfl]) ?_)
      refine Ev.bind (eqLimitS_ev _ m1 mB) (Ev.congr (fun k => by rw [if_pos rfl]) ?_)
      exact Ev.bind (eqBoolS_ev _ b3) (Ev.now true)
    refine Ev.bind ht (Ev.bind (specModel_ev _ _ _ m0 m1 mB) (Ev.bind ht (Ev.bind (implModel_ev _ _ _ m0 m1 mB) ?_)))
    refine Ev.congr (f := fun k => (laws_toModel.f k l0 l1 l2).bind fun bt => (laws_eqModel.f k (l0.map convD) (l1.map convL) l2 bt.1 bt.2.1 bt.2.2).bind fun t => if t = true then some true else some false) (fun k => by simp only [bne_self_eq_false, Bool.false_eq_true, if_false]) ?_
    exact Ev.bind ht (Ev.bind he (Ev.now true))

end Go.Proofs.Ytaclplimbnihkaa.Pure
