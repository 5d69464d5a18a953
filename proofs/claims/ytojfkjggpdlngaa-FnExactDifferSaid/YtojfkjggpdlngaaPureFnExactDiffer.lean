/- The plain law of FnExactDiffer: what the program computes is what the reference computes, for every input (no further condition). -/
import Derived.Test.YtojfkjggpdlngaaMFnExactDiffera11
import Derived.Test.YtojfkjggpdlngaaRFnExactDiffer
namespace Go.Proofs.Ytojfkjggpdlngaa.Pure
open Go.RowKit Go.Proofs.Ytojfkjggpdlngaa.PFnExactDiffer Go.Proofs.YtojfkjggpdlngaaW.PrintWords Go.Proofs.YtojfkjggpdlngaaW.PrintLast

set_option linter.unusedVariables false
set_option linter.unusedSimpArgs false
theorem _root_.Go.Proofs.YtojfkjggpdlngaaW.PrintWords.Ev.now {α : Type} (r : α) : Ev (fun _ => some r) r := ⟨0, fun _ _ => rfl⟩
theorem _root_.Go.Proofs.YtojfkjggpdlngaaW.PrintWords.Ev.rounds {α : Type} {g : Nat → Option α} {r : α} (h : Ev g r) : ∃ k, g k = some r := h.elim fun K h => ⟨K, h K (Nat.le_refl _)⟩

/-! plain facts on whole numbers -/
theorem wrap_id {x : Int} (h1 : -9223372036854775808 ≤ x) (h2 : x ≤ 9223372036854775807) : wrap64 x = x := by
  unfold wrap64; omega
theorem td_pos {a b : Int} (h : 0 ≤ a) : a.tdiv b = a / b := Int.tdiv_eq_ediv_of_nonneg h
theorem td_neg {a b : Int} (h : a ≤ 0) : a.tdiv b = -((-a) / b) := by
  rw [← Int.tdiv_eq_ediv_of_nonneg (by omega : 0 ≤ -a), Int.neg_tdiv]; omega
theorem tm_pos {a b : Int} (h : 0 ≤ a) : a.tmod b = a % b := Int.tmod_eq_emod_of_nonneg h
theorem tm_neg {a b : Int} (h : a ≤ 0) : a.tmod b = -((-a) % b) := by
  rw [← Int.tmod_eq_emod_of_nonneg (by omega : 0 ≤ -a), Int.neg_tmod]; omega
theorem tm_zero (a b : Int) : a.tmod b = 0 ↔ a % b = 0 := by
  rw [← Int.dvd_iff_tmod_eq_zero, ← Int.dvd_iff_emod_eq_zero]
theorem ediv_is {a b q r : Int} (hb : 0 < b) (h : a = b * q + r) (h0 : 0 ≤ r) (h1 : r < b) : a / b = q := by
  rw [h, Int.add_comm, Int.add_mul_ediv_left _ _ (by omega), Int.ediv_eq_zero_of_lt h0 h1]; omega
theorem ediv_neg_of {a b : Int} (hb : 0 < b) (h : a.tmod b = 0) : a.tdiv b = a / b := by
  have e := Int.mul_tdiv_add_tmod a b
  rw [h] at e
  exact (ediv_is hb (q := a.tdiv b) (r := 0) (by omega) (by omega) hb).symm
theorem ediv_floor {a b : Int} (hb : 0 < b) (ha : a < 0) (h : a.tmod b ≠ 0) : a.tdiv b - 1 = a / b := by
  have e := Int.mul_tdiv_add_tmod a b
  have hm := tm_neg (a := a) (b := b) (by omega)
  have h0 := Int.emod_nonneg (-a) (by omega : b ≠ 0)
  have h1 := Int.emod_lt_of_pos (-a) hb
  refine (ediv_is hb (q := a.tdiv b - 1) (r := a.tmod b + b) ?_ (by omega) (by omega)).symm
  rw [Int.mul_sub]; omega
/-- The floor, as both programs reckon it. -/
theorem floor_is {a b : Int} (hb : 0 < b) (h1 : -4611686018427387904 ≤ a) (h2 : a ≤ 4611686018427387904) :
    (if b = 0 then (none) else (if (Int.tmod a b) = 0 then (some (wrap64 (Int.tdiv a b))) else (if ((decide (a < 0)) != (decide (b < 0))) = true then (some (wrap64 ((wrap64 (Int.tdiv a b)) - 1))) else (some (wrap64 (Int.tdiv a b)))))) = some (a / b) := by
  have hle : a / b ≤ 4611686018427387904 := by
    by_cases h : 0 ≤ a
    · exact Int.le_trans (Int.ediv_le_self b h) h2
    · have := Int.ediv_neg_of_neg_of_pos (by omega : a < 0) hb; omega
  have hge : -4611686018427387904 ≤ a / b := by
    by_cases h : 0 ≤ a
    · have := Int.ediv_nonneg h (by omega : 0 ≤ b); omega
    · exact Int.le_ediv_of_mul_le hb (by have : -4611686018427387904 * b ≤ -4611686018427387904 * 1 := by omega
                                         omega)
  rw [if_neg (by omega : ¬ b = 0)]
  by_cases hm : Int.tmod a b = 0
  · rw [if_pos hm, ediv_neg_of hb hm, wrap_id (by omega) (by omega)]
  · rw [if_neg hm]
    by_cases ha : a < 0
    · have e := ediv_floor hb ha hm
      rw [if_pos (by simp [ha]; omega), wrap_id (x := Int.tdiv a b) (by omega) (by omega), e, wrap_id (by omega) (by omega)]
    · rw [if_neg (by simp [ha]; omega), td_pos (by omega), wrap_id (by omega) (by omega)]

/-! loops, by what they come to in the end ('Ev') -/
theorem ev_down {ρ : Type} {F : Nat → Int → Option ρ} {r : ρ} (n : Nat) (hs : ∀ i : Nat, i < n → Ev (fun k => F k ((i + 1 : Nat) : Int)) r → Ev (fun k => F k (i : Int)) r)
    (he : Ev (fun k => F k (n : Int)) r) : Ev (fun k => F k 0) r := by
  have h : ∀ d i : Nat, i + d = n → Ev (fun k => F k (i : Int)) r := by
    intro d
    induction d with
    | zero => intro i hi; obtain rfl : i = n := by omega
              exact he
    | succ d ih => intro i hi; exact hs i (by omega) (ih (i + 1) (by omega))
  exact h n 0 (by omega)
theorem ev_ex {ρ : Type} {F : Nat → Int → Option ρ} (n : Nat) (hs : ∀ i : Nat, i < n → (∃ r, Ev (fun k => F k ((i + 1 : Nat) : Int)) r) → ∃ r, Ev (fun k => F k (i : Int)) r)
    (he : ∃ r, Ev (fun k => F k (n : Int)) r) : ∃ r, Ev (fun k => F k 0) r := by
  have h : ∀ d i : Nat, i + d = n → ∃ r, Ev (fun k => F k (i : Int)) r := by
    intro d
    induction d with
    | zero => intro i hi; obtain rfl : i = n := by omega
              exact he
    | succ d ih => intro i hi; exact hs i (by omega) (ih (i + 1) (by omega))
  exact h n 0 (by omega)
theorem ev_to {α β : Type} {F : Nat → List β → Int → Option (List β)} (l : List α) (h : α → β) (z : β)
    (hs : ∀ (acc : List β) (i : Nat) (hi : i < l.length) (r : List β), acc.length = l.length → Ev (fun k => F k (acc.set i (h l[i])) ((i + 1 : Nat) : Int)) r → Ev (fun k => F k acc (i : Int)) r)
    (he : ∀ acc : List β, Ev (fun k => F k acc (l.length : Int)) acc) : Ev (fun k => F k (List.replicate l.length z) 0) (l.map h) := by
  have g : ∀ (d i : Nat) (acc : List β), i + d = l.length → acc.length = l.length → (∀ j : Nat, j < i → acc[j]? = (l.map h)[j]?) → Ev (fun k => F k acc (i : Int)) (l.map h) := by
    intro d
    induction d with
    | zero =>
      intro i acc hi hl hp
      obtain rfl : i = l.length := by omega
      have e : acc = l.map h := by
        refine List.ext_getElem? fun j => ?_
        by_cases hj : j < l.length
        · exact hp j hj
        · rw [List.getElem?_eq_none (by omega), List.getElem?_eq_none (by rw [List.length_map]; omega)]
      have := he acc
      rw [e] at this ⊢; exact this
    | succ d ih =>
      intro i acc hi hl hp
      refine hs acc i (by omega) _ hl (ih (i + 1) _ (by omega) (by rw [List.length_set]; exact hl) fun j hj => ?_)
      rw [List.getElem?_set]
      by_cases e : i = j
      · subst e
        rw [if_pos rfl, if_pos (by omega), List.getElem?_map, List.getElem?_eq_getElem (by omega)]; rfl
      · rw [if_neg e]; exact hp j (by omega)
  exact g l.length 0 _ (by omega) List.length_replicate (fun j hj => absurd hj (by omega))
theorem ev_sz {α : Type} {F : Nat → Int → Int → Option Int} (l : List α) (B : α → Prop)
    (hs : ∀ (i : Nat) (hi : i < l.length) (left : Int), 0 ≤ left → left ≤ 1048576 →
      Ev (fun k => F k left (i : Int)) (-1) ∨ (∃ left', 0 ≤ left' ∧ left' ≤ left ∧ B l[i] ∧ ∀ t, Ev (fun k => F k left' ((i + 1 : Nat) : Int)) t → Ev (fun k => F k left (i : Int)) t))
    (he : ∀ left, Ev (fun k => F k left (l.length : Int)) left) (left : Int) (h0 : 0 ≤ left) (h1 : left ≤ 1048576) :
    Ev (fun k => F k left 0) (-1) ∨ ∃ t, 0 ≤ t ∧ t ≤ left ∧ Ev (fun k => F k left 0) t ∧ ∀ x ∈ l, B x := by
  have g : ∀ (d i : Nat) (left : Int), i + d = l.length → 0 ≤ left → left ≤ 1048576 → Ev (fun k => F k left (i : Int)) (-1) ∨ ∃ t, 0 ≤ t ∧ t ≤ left ∧ Ev (fun k => F k left (i : Int)) t ∧ ∀ j (hj : j < l.length), i ≤ j → B l[j] := by
    intro d
    induction d with
    | zero =>
      intro i left hi h0 h1
      obtain rfl : i = l.length := by omega
      exact .inr ⟨left, h0, Int.le_refl _, he left, fun j hj hij => absurd hj (by omega)⟩
    | succ d ih =>
      intro i left hi h0 h1
      rcases hs i (by omega) left h0 h1 with h | ⟨left', g0, g1, hB, hk⟩
      · exact .inl h
      · rcases ih (i + 1) left' (by omega) g0 (by omega) with h | ⟨t, t0, t1, ht, hb⟩
        · exact .inl (hk _ h)
        · refine .inr ⟨t, t0, by omega, hk _ ht, fun j hj hij => ?_⟩
          by_cases e : i = j
          · subst e; exact hB
          · exact hb j hj (by omega)
  rcases g l.length 0 left (by omega) h0 h1 with h | ⟨t, t0, t1, ht, hb⟩
  · exact .inl h
  · refine .inr ⟨t, t0, t1, ht, fun x hx => ?_⟩
    obtain ⟨j, hj, rfl⟩ := List.getElem_of_mem hx
    exact hb j hj (Nat.zero_le _)
theorem getD_at {α : Type} (l : List α) (z : α) (i : Nat) (h : i < l.length) : l.getD ((i : Int)).toNat z = l[i] := by
  rw [Int.toNat_natCast, List.getD_eq_getElem?_getD, List.getElem?_eq_getElem h]; rfl
theorem ev_all {α : Type} {F : Nat → Int → Option Bool} (l : List α) (p : α → Bool) (b : Bool)
    (hs : ∀ (i : Nat) (hi : i < l.length) (r : Bool), p l[i] = true → Ev (fun k => F k ((i + 1 : Nat) : Int)) r → Ev (fun k => F k (i : Int)) r)
    (hf : ∀ (i : Nat) (hi : i < l.length) (r : Bool), p l[i] = false → Ev (fun k => F k ((i + 1 : Nat) : Int)) r → Ev (fun k => F k (i : Int)) false)
    (he : Ev (fun k => F k (l.length : Int)) b) : Ev (fun k => F k 0) (l.all p && b) := by
  have h : ∀ d i : Nat, i + d = l.length → Ev (fun k => F k (i : Int)) ((l.drop i).all p && b) := by
    intro d
    induction d with
    | zero =>
      intro i hi; obtain rfl : i = l.length := by omega
      rw [List.drop_length]; exact he
    | succ d ih =>
      intro i hi
      have hlt : i < l.length := by omega
      rw [List.drop_eq_getElem_cons hlt, List.all_cons]
      cases hp : p l[i]
      · exact hf i hlt _ hp (ih (i + 1) (by omega))
      · exact hs i hlt _ hp (ih (i + 1) (by omega))
  exact h l.length 0 (by omega)

/-- What is marked is held: a loop that writes the marks, and one that looks at them. -/
theorem ev_marks2 {β : Type} {F : Nat → List β → Int → Int → Option (Int × List β)} {H : Nat → List β → Int → Int → Option Int} (mk : Int → β) (s : Int) (hs : 0 ≤ s ∧ s ≤ 50) (n : Nat) (hn : n ≤ 2097152)
    (hF : ∀ (l : List β) (m : Int) (i : Nat) (r : Int × List β), l.length = n → i < n → 1 ≤ m → m ≤ 200000000 → Ev (fun k => F k (l.set i (mk m)) (m + s) ((i + 1 : Nat) : Int)) r → Ev (fun k => F k l m (i : Int)) r)
    (eF : ∀ (l : List β) (m : Int), l.length = n → Ev (fun k => F k l m (n : Int)) (m, l))
    (hH : ∀ (l : List β) (m : Int) (i : Nat) (r : Int), l.length = n → i < n → l[i]? = some (mk m) → 1 ≤ m → m ≤ 200000000 → Ev (fun k => H k l (m + s) ((i + 1 : Nat) : Int)) r → Ev (fun k => H k l m (i : Int)) r)
    (eH : ∀ (l : List β) (m : Int), l.length = n → Ev (fun k => H k l m (n : Int)) m) (l : List β) (hl : l.length = n) :
    ∃ m l', l'.length = n ∧ Ev (fun k => F k l 1 0) (m, l') ∧ Ev (fun k => H k l' 1 0) m ∧ 0 ≤ m := by
  have hb : ∀ i : Nat, i ≤ n → 1 ≤ 1 + s * i ∧ 1 + s * i ≤ 200000000 := fun i hi => by
    have h1 : 0 ≤ s * (i : Int) := Int.mul_nonneg hs.1 (by omega)
    have h2 : s * (i : Int) ≤ 50 * 2097152 := Int.mul_le_mul hs.2 (by omega) (by omega) (by omega)
    omega
  have hstep : ∀ i : Nat, 1 + s * ((i + 1 : Nat) : Int) = 1 + s * (i : Int) + s := fun i => by rw [Int.natCast_add, Int.mul_add]; simp; omega
  have g : ∀ (d i : Nat) (l : List β), i + d = n → l.length = n → (∀ j : Nat, j < i → l[j]? = some (mk (1 + s * j))) → ∃ l', l'.length = n ∧ (∀ j : Nat, j < n → l'[j]? = some (mk (1 + s * j))) ∧ Ev (fun k => F k l (1 + s * i) (i : Int)) (1 + s * n, l') := by
    intro d
    induction d with
    | zero =>
      intro i l hi hl hp
      obtain rfl : i = n := by omega
      exact ⟨l, hl, hp, eF l _ hl⟩
    | succ d ih =>
      intro i l hi hl hp
      obtain ⟨l', h1, h2, h3⟩ := ih (i + 1) (l.set i (mk (1 + s * i))) (by omega) (by rw [List.length_set]; exact hl) (fun j hj => by
        rw [List.getElem?_set]
        by_cases e : i = j
        · subst e; rw [if_pos rfl, if_pos (by omega)]
        · rw [if_neg e]; exact hp j (by omega))
      rw [hstep] at h3
      exact ⟨l', h1, h2, hF l _ i _ hl (by omega) (hb i (by omega)).1 (hb i (by omega)).2 h3⟩
  obtain ⟨l', h1, h2, h3⟩ := g n 0 l (by omega) hl (fun j hj => by omega)
  have k : ∀ (d i : Nat), i + d = n → Ev (fun k => H k l' (1 + s * i) (i : Int)) (1 + s * n) := by
    intro d
    induction d with
    | zero =>
      intro i hi
      obtain rfl : i = n := by omega
      exact eH l' _ h1
    | succ d ih =>
      intro i hi
      have := ih (i + 1) (by omega)
      rw [hstep] at this
      exact hH l' _ i _ h1 (by omega) (h2 i (by omega)) (hb i (by omega)).1 (hb i (by omega)).2 this
  have k0 := k n 0 (by omega)
  simp only [Int.natCast_zero, Int.mul_zero, Int.add_zero] at h3 k0
  exact ⟨1 + s * n, l', h1, h3, k0, by have := hb n (Nat.le_refl _); omega⟩

theorem wrapsUp (m : Int) (h1 : 1 ≤ m) (h2 : m ≤ 200000000) : wrap64 (m + 1) = m + 1 ∧ wrap64 (m + 1 + 1) = m + 1 + 1 ∧ wrap64 (m + 1 + 1 + 1) = m + 1 + 1 + 1 ∧ wrap64 (m + 1 + 1 + 1 + 1) = m + 1 + 1 + 1 + 1 ∧ wrap64 (m + 1 + 1 + 1 + 1 + 1) = m + 1 + 1 + 1 + 1 + 1 ∧ wrap64 (m + 1 + 1 + 1 + 1 + 1 + 1) = m + 1 + 1 + 1 + 1 + 1 + 1 ∧ wrap64 (m + 1 + 1 + 1 + 1 + 1 + 1 + 1) = m + 1 + 1 + 1 + 1 + 1 + 1 + 1 ∧ wrap64 (m + 1 + 1 + 1 + 1 + 1 + 1 + 1 + 1) = m + 1 + 1 + 1 + 1 + 1 + 1 + 1 + 1 ∧ wrap64 (m + 1 + 1 + 1 + 1 + 1 + 1 + 1 + 1 + 1) = m + 1 + 1 + 1 + 1 + 1 + 1 + 1 + 1 + 1 ∧ wrap64 (m + 1 + 1 + 1 + 1 + 1 + 1 + 1 + 1 + 1 + 1) = m + 1 + 1 + 1 + 1 + 1 + 1 + 1 + 1 + 1 + 1 ∧ wrap64 (m + 1 + 1 + 1 + 1 + 1 + 1 + 1 + 1 + 1 + 1 + 1) = m + 1 + 1 + 1 + 1 + 1 + 1 + 1 + 1 + 1 + 1 + 1 ∧ wrap64 (m + 1 + 1 + 1 + 1 + 1 + 1 + 1 + 1 + 1 + 1 + 1 + 1) = m + 1 + 1 + 1 + 1 + 1 + 1 + 1 + 1 + 1 + 1 + 1 + 1 := by
  refine ⟨?_, ?_, ?_, ?_, ?_, ?_, ?_, ?_, ?_, ?_, ?_, ?_⟩ <;> exact wrap_id (by omega) (by omega)

def aheadB (a b c d : Int) : Bool := decide (a < c) || (decide (a = c) && decide (b < d))
theorem ahead_s (a b c d : Int) : spec_l8Ahead.f a b c d = some (aheadB a b c d) := by
  unfold spec_l8Ahead.f aheadB
  by_cases h1 : a < c
  · rw [if_pos h1, decide_eq_true h1]; rfl
  · rw [if_neg h1, decide_eq_false h1]
    by_cases h2 : a = c
    · rw [if_pos h2, decide_eq_true h2]; rfl
    · rw [if_neg h2, decide_eq_false h2]; rfl
theorem ahead_i (a b c d : Int) : impl_place_before.f a b c d = some (aheadB a b c d) := by
  unfold impl_place_before.f aheadB
  by_cases h1 : a < c
  · rw [if_pos h1, decide_eq_true h1]; rfl
  · rw [if_neg h1, decide_eq_false h1]
    by_cases h2 : a = c
    · rw [if_pos h2, decide_eq_true h2]; rfl
    · rw [if_neg h2, decide_eq_false h2]; rfl
/-- A cell shown is more than its place. -/
def neQ (p : S107) : Bool := ((!((p.f2.f0) == 0) || (((p.f2.f1.f0) || (!((p.f2.f1.f1) == 0) || (!((p.f2.f1.f2) == 0)))) || (!((p.f2.f2.toList) == ([] : List UInt8))))) || (p.f3))
def bareQ (p : S107) : S107 := ⟨p.f0, p.f1, (⟨0, (⟨false, 0, 0⟩ : S103), (⟨#[]⟩ : ByteArray)⟩ : S105), false⟩
def neR (p q : S107) : Bool := (!((p.f0) == (q.f0)) || (!((p.f1) == (q.f1)) || ((!((p.f2.f0) == (q.f2.f0)) || ((!((p.f2.f1.f0) == (q.f2.f1.f0)) || (!((p.f2.f1.f1) == (q.f2.f1.f1)) || (!((p.f2.f1.f2) == (q.f2.f1.f2))))) || (!((p.f2.f2.toList) == (q.f2.f2.toList))))) || (!((p.f3) == (q.f3))))))
theorem nil_toList : (⟨#[]⟩ : ByteArray).toList = ([] : List UInt8) := by rw [ByteArray.toList, ByteArray.toList.loop]; rfl
theorem ne_bare (p : S107) : neR p (bareQ p) = neQ p := by
  unfold neR neQ bareQ
  simp only [nil_toList, BEq.rfl, Bool.not_true, Bool.false_or]
  cases p.f2.f1.f0 <;> cases p.f3 <;> simp
theorem bare_ne (q : S107) : neR (bareQ q) q = neQ q := by
  rw [← ne_bare]
  unfold neR bareQ
  simp only [nil_toList, BEq.rfl, Bool.not_true, Bool.false_or]
  rw [BEq.comm (a := (0 : Int)) (b := q.f2.f0), BEq.comm (a := (0 : Int)) (b := q.f2.f1.f1), BEq.comm (a := (0 : Int)) (b := q.f2.f1.f2), BEq.comm (a := false) (b := q.f2.f1.f0), BEq.comm (a := false) (b := q.f3), BEq.comm (a := ([] : List UInt8)) (b := q.f2.f2.toList)]
theorem ahead_off {a b c d : Int} (h : aheadB a b c d = true) : aheadB c d a b = false ∧ (c = a → (d == b) = false) ∧ (a = c → (b == d) = false) := by
  unfold aheadB at h ⊢
  simp only [Bool.or_eq_true, Bool.and_eq_true, decide_eq_true_eq] at h
  refine ⟨?_, fun e => beq_eq_false_iff_ne.mpr (by omega), fun e => beq_eq_false_iff_ne.mpr (by omega)⟩
  simp only [Bool.or_eq_false_iff, Bool.and_eq_false_iff, decide_eq_false_iff_not]; omega
theorem ahead_none {a b c d : Int} (h1 : aheadB a b c d = false) (h2 : aheadB c d a b = false) : c = a ∧ d = b := by
  unfold aheadB at h1 h2
  simp only [Bool.or_eq_false_iff, Bool.and_eq_false_iff, decide_eq_false_iff_not] at h1 h2; omega
/-- The next round of both programs: the cell at the places i and j. -/
theorem dif_both (a b : List S107) (ha : a.length ≤ 1048576) (hb : b.length ≤ 1048576) : ∀ (d i j : Nat) (acc : List S107), i ≤ a.length → j ≤ b.length → (a.length - i) + (b.length - j) ≤ d → acc.length ≤ i + j →
    ∃ r : List S107, r.length ≤ 2097152 ∧ Ev (fun n => spec_Differ.l0 n a b acc (i : Int) (j : Int)) r ∧ Ev (fun n => impl_Differ.l0 n a b acc (i : Int) (j : Int)) r := by
  intro d
  induction d with
  | zero =>
    intro i j acc hi hj hd hacc
    refine ⟨acc, by omega, ?_, ?_⟩
    · refine Ev.step (f := fun k => spec_Differ.j2 k a b acc (i : Int) (j : Int) false) (fun k => ?_) (Ev.step (f := fun _ => some acc) (fun k => ?_) (Ev.now _))
      · rw [spec_Differ.l0, if_neg (by omega), decide_eq_false (by omega)]
      · rw [spec_Differ.j2, if_neg (by simp)]
    · refine Ev.step (f := fun k => impl_Differ.j2 k a b acc (i : Int) (j : Int) false) (fun k => ?_) (Ev.step (f := fun _ => some acc) (fun k => ?_) (Ev.now _))
      · rw [impl_Differ.l0, if_neg (by omega), decide_eq_false (by omega)]
      · rw [impl_Differ.j2, if_neg (by simp)]
  | succ d ih =>
    intro i j acc hi hj hd hacc
    have hac : acc.length < 1954687338268 := by omega
    by_cases hia : i < a.length
    · -- a cell of a is left
      have key1 : (∀ K, impl_Differ.l0 (K + 3) a b acc (i : Int) (j : Int) = if neQ (rd_T107 a (i : Int)) = true then impl_Differ.l0 K a b (acc ++ [bareQ (rd_T107 a (i : Int))]) ((i + 1 : Nat) : Int) (j : Int) else impl_Differ.l0 K a b acc ((i + 1 : Nat) : Int) (j : Int)) →
          (∀ K, spec_Differ.l0 (K + 8) a b acc (i : Int) (j : Int) = if neR (rd_T107 a (i : Int)) (bareQ (rd_T107 a (i : Int))) = true then spec_Differ.l0 K a b (acc ++ [bareQ (rd_T107 a (i : Int))]) ((i + 1 : Nat) : Int) (j : Int) else spec_Differ.l0 K a b acc ((i + 1 : Nat) : Int) (j : Int)) →
          ∃ r : List S107, r.length ≤ 2097152 ∧ Ev (fun n => spec_Differ.l0 n a b acc (i : Int) (j : Int)) r ∧ Ev (fun n => impl_Differ.l0 n a b acc (i : Int) (j : Int)) r := by
        intro hI hS
        cases hq : neQ (rd_T107 a (i : Int)) with
        | true =>
          obtain ⟨r, hr, ⟨K1, e1⟩, ⟨K2, e2⟩⟩ := ih (i + 1) j (acc ++ [bareQ (rd_T107 a (i : Int))]) (by omega) hj (by omega) (by rw [List.length_append]; simp only [List.length_cons, List.length_nil]; omega)
          refine ⟨r, hr, ⟨K1 + 8, fun k hk => ?_⟩, ⟨K2 + 3, fun k hk => ?_⟩⟩
          · obtain ⟨k, rfl⟩ : ∃ q, k = q + 8 := ⟨k - 8, by omega⟩
            show spec_Differ.l0 (k + 8) a b acc (i : Int) (j : Int) = _
            rw [hS, ne_bare, hq, if_pos rfl]; exact e1 k (by omega)
          · obtain ⟨k, rfl⟩ : ∃ q, k = q + 3 := ⟨k - 3, by omega⟩
            show impl_Differ.l0 (k + 3) a b acc (i : Int) (j : Int) = _
            rw [hI, hq, if_pos rfl]; exact e2 k (by omega)
        | false =>
          obtain ⟨r, hr, ⟨K1, e1⟩, ⟨K2, e2⟩⟩ := ih (i + 1) j acc (by omega) hj (by omega) (by omega)
          refine ⟨r, hr, ⟨K1 + 8, fun k hk => ?_⟩, ⟨K2 + 3, fun k hk => ?_⟩⟩
          · obtain ⟨k, rfl⟩ : ∃ q, k = q + 8 := ⟨k - 8, by omega⟩
            show spec_Differ.l0 (k + 8) a b acc (i : Int) (j : Int) = _
            rw [hS, ne_bare, hq, if_neg (by simp)]; exact e1 k (by omega)
          · obtain ⟨k, rfl⟩ : ∃ q, k = q + 3 := ⟨k - 3, by omega⟩
            show impl_Differ.l0 (k + 3) a b acc (i : Int) (j : Int) = _
            rw [hI, hq, if_neg (by simp)]; exact e2 k (by omega)
      have wi : wrap64 ((i : Int) + 1) = ((i + 1 : Nat) : Int) := wrap_id (by omega) (by omega)
      by_cases hjb : j < b.length
      · have wj : wrap64 ((j : Int) + 1) = ((j + 1 : Nat) : Int) := wrap_id (by omega) (by omega)
        cases h1 : aheadB (rd_T107 a (i : Int)).f0 (rd_T107 a (i : Int)).f1 (rd_T107 b (j : Int)).f0 (rd_T107 b (j : Int)).f1 with
        | true =>
          obtain ⟨o1, o2, o3⟩ := ahead_off h1
          refine key1 (fun K => ?_) (fun K => ?_)
          · rw [impl_Differ.l0, if_pos (by omega), impl_Differ.j2, if_pos rfl, if_neg (by omega), if_pos (by omega), if_pos (by omega), if_pos (by omega), if_pos (by omega), ahead_i, h1]
            simp only [Option.bind_some]
            rw [impl_Differ.j3, if_pos rfl, if_pos (by omega), if_pos (by omega), if_pos hac, wi]; rfl
          · rw [spec_Differ.l0, if_pos (by omega), spec_Differ.j2, if_pos rfl, if_pos (by omega), if_pos (by omega), spec_Differ.j3, if_pos (by omega), if_neg (by omega), if_pos (by omega), ahead_s, o1]
            simp only [Option.bind_some]
            rw [spec_Differ.j4, if_neg (by simp), spec_Differ.j5, if_pos (by omega), if_pos (by omega), if_pos rfl, BEq.rfl, spec_Differ.j6, if_pos rfl, if_pos (by omega), if_pos (by omega), spec_Differ.j7, if_pos (by omega), if_pos (by omega), wi]
            by_cases c : (rd_T107 b (j : Int)).f0 = (rd_T107 a (i : Int)).f0
            · rw [if_pos c, o2 c, spec_Differ.j8, if_neg (by simp), if_pos hac]; rfl
            · rw [if_neg c, spec_Differ.j8, if_neg (by simp), if_pos hac]; rfl
        | false =>
          cases h2 : aheadB (rd_T107 b (j : Int)).f0 (rd_T107 b (j : Int)).f1 (rd_T107 a (i : Int)).f0 (rd_T107 a (i : Int)).f1 with
          | true =>
            obtain ⟨o1, o2, o3⟩ := ahead_off h2
            have hI : ∀ K, impl_Differ.l0 (K + 4) a b acc (i : Int) (j : Int) = if neQ (rd_T107 b (j : Int)) = true then impl_Differ.l0 K a b (acc ++ [rd_T107 b (j : Int)]) (i : Int) ((j + 1 : Nat) : Int) else impl_Differ.l0 K a b acc (i : Int) ((j + 1 : Nat) : Int) := fun K => by
              rw [impl_Differ.l0, if_pos (by omega), impl_Differ.j2, if_pos rfl, if_neg (by omega), if_pos (by omega), if_pos (by omega), if_pos (by omega), if_pos (by omega), ahead_i, h1]
              simp only [Option.bind_some]
              rw [impl_Differ.j3, if_neg (by simp), if_neg (by omega), if_pos (by omega), if_pos (by omega), if_pos (by omega), if_pos (by omega), ahead_i, h2]
              simp only [Option.bind_some]
              rw [impl_Differ.j4, if_pos rfl, if_pos (by omega), if_pos (by omega), if_pos hac, wj]; rfl
            have hS : ∀ K, spec_Differ.l0 (K + 8) a b acc (i : Int) (j : Int) = if neR (bareQ (rd_T107 b (j : Int))) (rd_T107 b (j : Int)) = true then spec_Differ.l0 K a b (acc ++ [rd_T107 b (j : Int)]) (i : Int) ((j + 1 : Nat) : Int) else spec_Differ.l0 K a b acc (i : Int) ((j + 1 : Nat) : Int) := fun K => by
              rw [spec_Differ.l0, if_pos (by omega), spec_Differ.j2, if_pos rfl, if_pos (by omega), if_pos (by omega), spec_Differ.j3, if_pos (by omega), if_neg (by omega), if_pos (by omega), ahead_s, h2]
              simp only [Option.bind_some]
              rw [spec_Differ.j4, if_pos rfl, if_pos (by omega), if_pos (by omega), spec_Differ.j5, if_pos (by omega), if_pos (by omega)]
              have hj6 : (if (rd_T107 a (i : Int)).f0 = (rd_T107 b (j : Int)).f0 then ((rd_T107 a (i : Int)).f1 == (rd_T107 b (j : Int)).f1) else false) = false := by
                by_cases c : (rd_T107 a (i : Int)).f0 = (rd_T107 b (j : Int)).f0
                · rw [if_pos c]; exact o2 c
                · rw [if_neg c]
              by_cases c : (rd_T107 a (i : Int)).f0 = (rd_T107 b (j : Int)).f0
              · rw [if_pos c, o2 c, spec_Differ.j6, if_neg (by simp), spec_Differ.j7, if_pos (by omega), if_pos (by omega), if_pos rfl, BEq.rfl, spec_Differ.j8, if_pos rfl, if_pos (by omega), if_pos (by omega), if_pos hac, wj]; rfl
              · rw [if_neg c, spec_Differ.j6, if_neg (by simp), spec_Differ.j7, if_pos (by omega), if_pos (by omega), if_pos rfl, BEq.rfl, spec_Differ.j8, if_pos rfl, if_pos (by omega), if_pos (by omega), if_pos hac, wj]; rfl
            cases hq : neQ (rd_T107 b (j : Int)) with
            | true =>
              obtain ⟨r, hr, ⟨K1, e1⟩, ⟨K2, e2⟩⟩ := ih i (j + 1) (acc ++ [rd_T107 b (j : Int)]) hi (by omega) (by omega) (by rw [List.length_append]; simp only [List.length_cons, List.length_nil]; omega)
              refine ⟨r, hr, ⟨K1 + 8, fun k hk => ?_⟩, ⟨K2 + 4, fun k hk => ?_⟩⟩
              · obtain ⟨k, rfl⟩ : ∃ q, k = q + 8 := ⟨k - 8, by omega⟩
                show spec_Differ.l0 (k + 8) a b acc (i : Int) (j : Int) = _
                rw [hS, bare_ne, hq, if_pos rfl]; exact e1 k (by omega)
              · obtain ⟨k, rfl⟩ : ∃ q, k = q + 4 := ⟨k - 4, by omega⟩
                show impl_Differ.l0 (k + 4) a b acc (i : Int) (j : Int) = _
                rw [hI, hq, if_pos rfl]; exact e2 k (by omega)
            | false =>
              obtain ⟨r, hr, ⟨K1, e1⟩, ⟨K2, e2⟩⟩ := ih i (j + 1) acc hi (by omega) (by omega) (by omega)
              refine ⟨r, hr, ⟨K1 + 8, fun k hk => ?_⟩, ⟨K2 + 4, fun k hk => ?_⟩⟩
              · obtain ⟨k, rfl⟩ : ∃ q, k = q + 8 := ⟨k - 8, by omega⟩
                show spec_Differ.l0 (k + 8) a b acc (i : Int) (j : Int) = _
                rw [hS, bare_ne, hq, if_neg (by simp)]; exact e1 k (by omega)
              · obtain ⟨k, rfl⟩ : ∃ q, k = q + 4 := ⟨k - 4, by omega⟩
                show impl_Differ.l0 (k + 4) a b acc (i : Int) (j : Int) = _
                rw [hI, hq, if_neg (by simp)]; exact e2 k (by omega)
          | false =>
            obtain ⟨c1, c2⟩ := ahead_none h1 h2
            have hI : ∀ K, impl_Differ.l0 (K + 4) a b acc (i : Int) (j : Int) = if neR (rd_T107 a (i : Int)) (rd_T107 b (j : Int)) = true then impl_Differ.l0 K a b (acc ++ [rd_T107 b (j : Int)]) ((i + 1 : Nat) : Int) ((j + 1 : Nat) : Int) else impl_Differ.l0 K a b acc ((i + 1 : Nat) : Int) ((j + 1 : Nat) : Int) := fun K => by
              rw [impl_Differ.l0, if_pos (by omega), impl_Differ.j2, if_pos rfl, if_neg (by omega), if_pos (by omega), if_pos (by omega), if_pos (by omega), if_pos (by omega), ahead_i, h1]
              simp only [Option.bind_some]
              rw [impl_Differ.j3, if_neg (by simp), if_neg (by omega), if_pos (by omega), if_pos (by omega), if_pos (by omega), if_pos (by omega), ahead_i, h2]
              simp only [Option.bind_some]
              rw [impl_Differ.j4, if_neg (by simp), if_pos (by omega), if_pos (by omega), if_pos (by omega), if_pos (by omega), if_pos hac, wi, wj]; rfl
            have hS : ∀ K, spec_Differ.l0 (K + 8) a b acc (i : Int) (j : Int) = if neR (rd_T107 a (i : Int)) (rd_T107 b (j : Int)) = true then spec_Differ.l0 K a b (acc ++ [rd_T107 b (j : Int)]) ((i + 1 : Nat) : Int) ((j + 1 : Nat) : Int) else spec_Differ.l0 K a b acc ((i + 1 : Nat) : Int) ((j + 1 : Nat) : Int) := fun K => by
              rw [spec_Differ.l0, if_pos (by omega), spec_Differ.j2, if_pos rfl, if_pos (by omega), if_pos (by omega), spec_Differ.j3, if_pos (by omega), if_neg (by omega), if_pos (by omega), ahead_s, h2]
              simp only [Option.bind_some]
              rw [spec_Differ.j4, if_neg (by simp), spec_Differ.j5, if_pos (by omega), if_pos (by omega), if_pos rfl, BEq.rfl, spec_Differ.j6, if_pos rfl, if_pos (by omega), if_pos (by omega), spec_Differ.j7, if_pos (by omega), if_pos (by omega), if_pos c1, show ((rd_T107 b (j : Int)).f1 == (rd_T107 a (i : Int)).f1) = true from by rw [c2]; exact BEq.rfl, spec_Differ.j8, if_pos rfl, if_pos (by omega), if_pos (by omega), if_pos hac, wi, wj]; rfl
            cases hq : neR (rd_T107 a (i : Int)) (rd_T107 b (j : Int)) with
            | true =>
              obtain ⟨r, hr, ⟨K1, e1⟩, ⟨K2, e2⟩⟩ := ih (i + 1) (j + 1) (acc ++ [rd_T107 b (j : Int)]) (by omega) (by omega) (by omega) (by rw [List.length_append]; simp only [List.length_cons, List.length_nil]; omega)
              refine ⟨r, hr, ⟨K1 + 8, fun k hk => ?_⟩, ⟨K2 + 4, fun k hk => ?_⟩⟩
              · obtain ⟨k, rfl⟩ : ∃ q, k = q + 8 := ⟨k - 8, by omega⟩
                show spec_Differ.l0 (k + 8) a b acc (i : Int) (j : Int) = _
                rw [hS, hq, if_pos rfl]; exact e1 k (by omega)
              · obtain ⟨k, rfl⟩ : ∃ q, k = q + 4 := ⟨k - 4, by omega⟩
                show impl_Differ.l0 (k + 4) a b acc (i : Int) (j : Int) = _
                rw [hI, hq, if_pos rfl]; exact e2 k (by omega)
            | false =>
              obtain ⟨r, hr, ⟨K1, e1⟩, ⟨K2, e2⟩⟩ := ih (i + 1) (j + 1) acc (by omega) (by omega) (by omega) (by omega)
              refine ⟨r, hr, ⟨K1 + 8, fun k hk => ?_⟩, ⟨K2 + 4, fun k hk => ?_⟩⟩
              · obtain ⟨k, rfl⟩ : ∃ q, k = q + 8 := ⟨k - 8, by omega⟩
                show spec_Differ.l0 (k + 8) a b acc (i : Int) (j : Int) = _
                rw [hS, hq, if_neg (by simp)]; exact e1 k (by omega)
              · obtain ⟨k, rfl⟩ : ∃ q, k = q + 4 := ⟨k - 4, by omega⟩
                show impl_Differ.l0 (k + 4) a b acc (i : Int) (j : Int) = _
                rw [hI, hq, if_neg (by simp)]; exact e2 k (by omega)
      · refine key1 (fun K => ?_) (fun K => ?_)
        · rw [impl_Differ.l0, if_pos (by omega), impl_Differ.j2, if_pos rfl, if_pos (by omega), impl_Differ.j3, if_pos rfl, if_pos (by omega), if_pos (by omega), if_pos hac, wi]; rfl
        · rw [spec_Differ.l0, if_pos (by omega), spec_Differ.j2, if_pos rfl, if_pos (by omega), if_pos (by omega), spec_Differ.j3, if_neg (by omega), spec_Differ.j4, if_neg (by simp), spec_Differ.j5, if_pos (by omega), if_pos (by omega), if_pos rfl, BEq.rfl, spec_Differ.j6, if_pos rfl, if_pos (by omega), if_pos (by omega), spec_Differ.j7, if_neg (by omega), spec_Differ.j8, if_neg (by simp), if_pos hac, wi]; rfl
    · by_cases hjb : j < b.length
      · have wj : wrap64 ((j : Int) + 1) = ((j + 1 : Nat) : Int) := wrap_id (by omega) (by omega)
        have hI : ∀ K, impl_Differ.l0 (K + 4) a b acc (i : Int) (j : Int) = if neQ (rd_T107 b (j : Int)) = true then impl_Differ.l0 K a b (acc ++ [rd_T107 b (j : Int)]) (i : Int) ((j + 1 : Nat) : Int) else impl_Differ.l0 K a b acc (i : Int) ((j + 1 : Nat) : Int) := fun K => by
          rw [impl_Differ.l0, if_neg (by omega), decide_eq_true (by omega), impl_Differ.j2, if_pos rfl, if_neg (by omega), if_neg (by omega), impl_Differ.j3, if_neg (by simp), if_pos (by omega), impl_Differ.j4, if_pos rfl, if_pos (by omega), if_pos (by omega), if_pos hac, wj]; rfl
        have hS : ∀ K, spec_Differ.l0 (K + 8) a b acc (i : Int) (j : Int) = if neR (bareQ (rd_T107 b (j : Int))) (rd_T107 b (j : Int)) = true then spec_Differ.l0 K a b (acc ++ [rd_T107 b (j : Int)]) (i : Int) ((j + 1 : Nat) : Int) else spec_Differ.l0 K a b acc (i : Int) ((j + 1 : Nat) : Int) := fun K => by
          rw [spec_Differ.l0, if_neg (by omega), decide_eq_true (by omega), spec_Differ.j2, if_pos rfl, if_neg (by omega), spec_Differ.j3, if_pos (by omega), if_pos (by omega), spec_Differ.j4, if_pos rfl, if_pos (by omega), if_pos (by omega), spec_Differ.j5, if_neg (by omega), spec_Differ.j6, if_neg (by simp), spec_Differ.j7, if_pos (by omega), if_pos (by omega), if_pos rfl, BEq.rfl, spec_Differ.j8, if_pos rfl, if_pos (by omega), if_pos (by omega), if_pos hac, wj]; rfl
        cases hq : neQ (rd_T107 b (j : Int)) with
        | true =>
          obtain ⟨r, hr, ⟨K1, e1⟩, ⟨K2, e2⟩⟩ := ih i (j + 1) (acc ++ [rd_T107 b (j : Int)]) hi (by omega) (by omega) (by rw [List.length_append]; simp only [List.length_cons, List.length_nil]; omega)
          refine ⟨r, hr, ⟨K1 + 8, fun k hk => ?_⟩, ⟨K2 + 4, fun k hk => ?_⟩⟩
          · obtain ⟨k, rfl⟩ : ∃ q, k = q + 8 := ⟨k - 8, by omega⟩
            show spec_Differ.l0 (k + 8) a b acc (i : Int) (j : Int) = _
            rw [hS, bare_ne, hq, if_pos rfl]; exact e1 k (by omega)
          · obtain ⟨k, rfl⟩ : ∃ q, k = q + 4 := ⟨k - 4, by omega⟩
            show impl_Differ.l0 (k + 4) a b acc (i : Int) (j : Int) = _
            rw [hI, hq, if_pos rfl]; exact e2 k (by omega)
        | false =>
          obtain ⟨r, hr, ⟨K1, e1⟩, ⟨K2, e2⟩⟩ := ih i (j + 1) acc hi (by omega) (by omega) (by omega)
          refine ⟨r, hr, ⟨K1 + 8, fun k hk => ?_⟩, ⟨K2 + 4, fun k hk => ?_⟩⟩
          · obtain ⟨k, rfl⟩ : ∃ q, k = q + 8 := ⟨k - 8, by omega⟩
            show spec_Differ.l0 (k + 8) a b acc (i : Int) (j : Int) = _
            rw [hS, bare_ne, hq, if_neg (by simp)]; exact e1 k (by omega)
          · obtain ⟨k, rfl⟩ : ∃ q, k = q + 4 := ⟨k - 4, by omega⟩
            show impl_Differ.l0 (k + 4) a b acc (i : Int) (j : Int) = _
            rw [hI, hq, if_neg (by simp)]; exact e2 k (by omega)
      · exact (ih i j acc hi hj (by omega) hacc)
/-- Both look at a list's order alike. -/
theorem rise_both (l : List S107) (hl : l.length ≤ 1048576) : ∀ (d i : Nat), 1 ≤ i → l.length - i ≤ d → i ≤ l.length + 1 → ∃ t : Bool, Ev (fun k => spec_l9Rising.l0 k l (i : Int)) t ∧ Ev (fun k => impl_rising.l0 k l (i : Int)) t := by
  intro d
  induction d with
  | zero =>
    intro i h1 h2 h3
    refine ⟨true, Ev.step (f := fun _ => some true) (fun k => ?_) (Ev.now _), Ev.step (f := fun _ => some true) (fun k => ?_) (Ev.now _)⟩
    · rw [spec_l9Rising.l0, if_neg (by omega)]
    · rw [impl_rising.l0, if_neg (by omega)]
  | succ d ih =>
    intro i h1 h2 h3
    by_cases hi : i < l.length
    · have w0 := wrap_id (x := (i : Int) - 1) (by omega) (by omega)
      have w1 : wrap64 ((i : Int) + 1) = ((i + 1 : Nat) : Int) := wrap_id (by omega) (by omega)
      obtain ⟨t, e1, e2⟩ := ih (i + 1) (by omega) (by omega) (by omega)
      cases hb : aheadB (rd_T107 l ((i : Int) - 1)).f0 (rd_T107 l ((i : Int) - 1)).f1 (rd_T107 l (i : Int)).f0 (rd_T107 l (i : Int)).f1 with
      | true =>
        refine ⟨t, Ev.step (fun k => ?_) e1, Ev.step (fun k => ?_) e2⟩
        · rw [spec_l9Rising.l0, if_pos (by omega), w0, if_pos (by omega), if_pos (by omega), if_pos (by omega), ahead_s, hb]; simp only [Option.bind_some, if_true]; rw [w1]
        · rw [impl_rising.l0, if_pos (by omega), w0, if_pos (by omega), if_pos (by omega), if_pos (by omega), ahead_i, hb]; simp only [Option.bind_some, if_true]; rw [w1]
      | false =>
        refine ⟨false, Ev.step (f := fun _ => some false) (fun k => ?_) (Ev.now _), Ev.step (f := fun _ => some false) (fun k => ?_) (Ev.now _)⟩
        · rw [spec_l9Rising.l0, if_pos (by omega), w0, if_pos (by omega), if_pos (by omega), if_pos (by omega), ahead_s, hb]; simp
        · rw [impl_rising.l0, if_pos (by omega), w0, if_pos (by omega), if_pos (by omega), if_pos (by omega), ahead_i, hb]; simp
    · exact ih i h1 (by omega) h3
theorem differ_both (a b : List S107) (ha : a.length ≤ 1048576) (hb : b.length ≤ 1048576) : ∃ r : List S107, r.length ≤ 2097152 ∧ Ev (fun n => spec_Differ.f n a b) r ∧ Ev (fun n => impl_Differ.f n a b) r := by
  obtain ⟨t1, s1, i1⟩ := rise_both a ha a.length 1 (by omega) (by omega) (by omega)
  obtain ⟨t2, s2, i2⟩ := rise_both b hb b.length 1 (by omega) (by omega) (by omega)
  replace s1 : Ev (fun k => spec_l9Rising.f k a) t1 := s1
  replace s2 : Ev (fun k => spec_l9Rising.f k b) t2 := s2
  replace i1 : Ev (fun k => impl_rising.f k a) t1 := i1
  replace i2 : Ev (fun k => impl_rising.f k b) t2 := i2
  have hno : ∀ n, spec_Differ.j0 (n + 1) a b true = some [] ∧ impl_Differ.j0 (n + 1) a b true = some [] := fun n => ⟨by rw [spec_Differ.j0, if_pos rfl], by rw [impl_Differ.j0, if_pos rfl]⟩
  cases t1 with
  | false =>
    refine ⟨[], by simp, Ev.bind s1 (Ev.step (f := fun _ => some []) (fun n => ?_) (Ev.now _)), Ev.bind i1 (Ev.step (f := fun _ => some []) (fun n => ?_) (Ev.now _))⟩
    · rw [if_neg (by simp)]; exact (hno n).1
    · rw [if_neg (by simp)]; exact (hno n).2
  | true =>
    cases t2 with
    | false =>
      refine ⟨[], by simp, Ev.bind s1 (Ev.congr (fun n => by rw [if_pos rfl]) (Ev.bind s2 (Ev.step (f := fun _ => some []) (fun n => ?_) (Ev.now _)))), Ev.bind i1 (Ev.congr (fun n => by rw [if_pos rfl]) (Ev.bind i2 (Ev.step (f := fun _ => some []) (fun n => ?_) (Ev.now _))))⟩
      · exact (hno n).1
      · exact (hno n).2
    | true =>
      obtain ⟨r, hr, e1, e2⟩ := dif_both a b ha hb (a.length + b.length) 0 0 [] (by omega) (by omega) (by omega) (by simp)
      refine ⟨r, hr, Ev.bind s1 (Ev.congr (fun n => by rw [if_pos rfl]) (Ev.bind s2 (Ev.step (fun n => ?_) e1))), Ev.bind i1 (Ev.congr (fun n => by rw [if_pos rfl]) (Ev.bind i2 (Ev.step (fun n => ?_) e2)))⟩
      · show spec_Differ.j0 (n + 1) a b false = _
        rw [spec_Differ.j0, if_neg (by simp)]; rfl
      · show impl_Differ.j0 (n + 1) a b false = _
        rw [impl_Differ.j0, if_neg (by simp)]; rfl
/-! the law's own: the copies, the comparison, the bound, the marks -/
theorem atLH (l : List S101) (i : Nat) (h : i < l.length) : rd_T101 l (i : Int) = l[i] := getD_at l _ i h
theorem atIH (l : List S107) (i : Nat) (h : i < l.length) : rd_T107 l (i : Int) = l[i] := getD_at l _ i h
def convH (x : S101) : S107 := ⟨x.f0, x.f1, ⟨x.f2.f0, ⟨x.f2.f1.f0, x.f2.f1.f1, x.f2.f1.f2⟩, x.f2.f2⟩, x.f3⟩
theorem toShownS_ev (l : List S101) (hl : l.length ≤ 1048576) : Ev (fun k => laws_toShownS.f k l) (l.map convH) := by
  unfold laws_toShownS.f
  refine Ev.congr (f := fun k => laws_toShownS.l0 k l (List.replicate l.length z107) 0) (fun k => by rw [if_pos (by omega), if_pos (by omega), Int.toNat_natCast]) ?_
  refine ev_to (F := fun k acc i => laws_toShownS.l0 k l acc i) l convH z107 ?_ ?_
  · intro acc i hi r hacc h
    refine Ev.step (fun k => ?_) h
    simp only [laws_toShownS.l0]
    rw [if_pos (by omega), if_pos (by omega), atLH l i hi]
    simp only [laws_toShown.f, laws_toValue.f, laws_toDec.f, Option.bind_some]
    rw [if_pos (by omega), wrap_id (x := (i : Int) + 1) (by omega) (by omega), Int.toNat_natCast]
    rfl
  · intro acc
    refine Ev.step (fun k => ?_) (Ev.now acc)
    simp only [laws_toShownS.l0]
    rw [if_neg (by omega)]
theorem eqShown_is (a b c : Int) (d : Bool) (e f : Int) (s : ByteArray) (g : Bool) : laws_eqShown.f a b c d e f s g a b c d e f s g = some true := by
  unfold laws_eqShown.f laws_eqValue.f laws_eqDec.f; simp
theorem eqShownS_ev (l : List S107) (hl : l.length ≤ 2097152) : Ev (fun k => laws_eqShownS.f k l l) true := by
  unfold laws_eqShownS.f
  refine Ev.congr (f := fun k => laws_eqShownS.l0 k l l 0) (fun k => by rw [if_pos rfl]) ?_
  refine ev_down (F := fun k i => laws_eqShownS.l0 k l l i) l.length ?_ ?_
  · intro i hi h
    refine Ev.step (fun k => ?_) h
    simp only [laws_eqShownS.l0]
    rw [if_pos (by omega), if_pos (by omega), if_pos (by omega), eqShown_is]
    simp only [Option.bind_some, if_true]
    rw [wrap_id (x := (i : Int) + 1) (by omega) (by omega)]; rfl
  · refine Ev.step (fun k => ?_) (Ev.now true)
    simp only [laws_eqShownS.l0]
    rw [if_neg (by omega)]
theorem szShownS_ev (l : List S101) (hq : QL Q101 l) (left : Int) (h0 : 0 ≤ left) (h1 : left ≤ 1048576) :
    Ev (fun k => laws_szShownS.f k l left) (-1) ∨ ∃ t, 0 ≤ t ∧ t ≤ left ∧ Ev (fun k => laws_szShownS.f k l left) t ∧ l.length ≤ 1048576 := by
  have hl := hq.1
  unfold laws_szShownS.f
  rw [wrap_id (x := left - (l.length : Int)) (by omega) (by omega)]
  by_cases h : left - (l.length : Int) < 0
  · exact .inl (Ev.congr (f := fun _ => some (-1)) (fun k => by rw [if_pos h]) (Ev.now _))
  · have e : ∀ k, (if left - (l.length : Int) < 0 then some (-1) else laws_szShownS.l0 k l (left - (l.length : Int)) 0) = laws_szShownS.l0 k l (left - (l.length : Int)) 0 := fun k => by rw [if_neg h]
    have := ev_sz (F := fun k left i => laws_szShownS.l0 k l left i) l (fun _ => True) ?_ ?_ (left - (l.length : Int)) (by omega) (by omega)
    · rcases this with h1 | ⟨t, t0, t1, ht, hb⟩
      · exact .inl (Ev.congr e h1)
      · exact .inr ⟨t, t0, by omega, Ev.congr e ht, by omega⟩
    · intro i hi left h0 h1
      have hs : (l[i]).f2.f2.size ≤ maxLen := (hq.2 _ (List.getElem_mem hi)).2.2.1.2.2
      simp only [maxLen] at hs
      have hsz : laws_szShown.f (l[i]).f0 (l[i]).f1 (l[i]).f2.f0 (l[i]).f2.f1.f0 (l[i]).f2.f1.f1 (l[i]).f2.f1.f2 (l[i]).f2.f2 (l[i]).f3 left = some (if left - ((l[i]).f2.f2.size : Int) < 0 then -1 else left - ((l[i]).f2.f2.size : Int)) := by
        unfold laws_szShown.f laws_szValue.f; rw [wrap_id (x := left - ((l[i]).f2.f2.size : Int)) (by omega) (by omega)]
        by_cases c : left - ((l[i]).f2.f2.size : Int) < 0
        · rw [if_pos c, if_pos c]; rfl
        · rw [if_neg c, if_neg c]; simp only [Option.bind_some]; rw [if_neg c]
      by_cases c : left - ((l[i]).f2.f2.size : Int) < 0
      · refine .inl (Ev.step (f := fun _ => some (-1)) (fun k => ?_) (Ev.now _))
        simp only [laws_szShownS.l0]
        rw [if_pos (by omega), if_pos (by omega), atLH l i hi, hsz, if_pos c]; simp
      · refine .inr ⟨left - ((l[i]).f2.f2.size : Int), by omega, by omega, trivial, fun t ht => Ev.step (fun k => ?_) ht⟩
        simp only [laws_szShownS.l0]
        rw [if_pos (by omega), if_pos (by omega), atLH l i hi, hsz, if_neg c]; simp only [Option.bind_some]
        rw [if_neg c, wrap_id (x := (i : Int) + 1) (by omega) (by omega)]; rfl
    · intro left
      refine Ev.step (fun k => ?_) (Ev.now left)
      simp only [laws_szShownS.l0]
      rw [if_neg (by omega)]
/-- A mark's text ends. -/
theorem markText_l0 : ∀ (d : Nat) (x : Int) (s : ByteArray), x < 10 ^ d → s.size + d + 1 ≤ 1000 → x ≤ 4000000000 → ∃ t, Ev (fun k => laws_markText.l0 k x s) t
  | 0, x, s, hx, hs, hm => by
    have hx1 : ¬ x > 0 := by simp at hx; omega
    refine ⟨(⟨#[109]⟩ : ByteArray) ++ s, Ev.step (f := fun _ => some ((⟨#[109]⟩ : ByteArray) ++ s)) (fun k => ?_) (Ev.now _)⟩
    rw [laws_markText.l0, if_neg hx1, if_pos (by omega)]
  | d + 1, x, s, hx, hs, hm => by
    by_cases h : x > 0
    · have e : Int.tdiv x 10 = x / 10 := td_pos (by omega)
      have hz : ∀ c : Int, (strOfNums [c]).size = 1 := fun c => rfl
      obtain ⟨t, ht⟩ := markText_l0 d (x / 10) (strOfNums [wrap64 (48 + Int.tmod x 10) % 256] ++ s) (by
        have : (10 : Int) ^ (d + 1) = 10 ^ d * 10 := Int.pow_succ 10 d
        omega) (by rw [ByteArray.size_append, hz]; omega) (by omega)
      refine ⟨t, Ev.step (fun k => ?_) ht⟩
      rw [laws_markText.l0, if_pos h]
      simp only [Option.bind_some]
      rw [if_pos (by rw [hz]; omega), e, wrap_id (x := x / 10) (by omega) (by omega)]
    · refine ⟨(⟨#[109]⟩ : ByteArray) ++ s, Ev.step (f := fun _ => some ((⟨#[109]⟩ : ByteArray) ++ s)) (fun k => ?_) (Ev.now _)⟩
      rw [laws_markText.l0, if_neg h, if_pos (by omega)]
theorem markText_all : ∃ mt : Int → ByteArray, ∀ m, m ≤ 4000000000 → Ev (fun k => laws_markText.f k m) (mt m) := by
  refine Classical.axiomOfChoice (r := fun (m : Int) (s : ByteArray) => m ≤ 4000000000 → Ev (fun k => laws_markText.f k m) s) (fun m => ?_)
  by_cases h : m ≤ 4000000000
  · by_cases h0 : m ≤ 0
    · exact ⟨_, fun _ => Ev.congr (f := fun _ => some _) (fun k => by unfold laws_markText.f; rw [if_pos h0]) (Ev.now _)⟩
    · obtain ⟨t, ht⟩ := markText_l0 10 m (⟨#[]⟩ : ByteArray) (by omega) (by show 0 + 10 + 1 ≤ 1000; omega) h
      exact ⟨t, fun _ => Ev.congr (fun k => by unfold laws_markText.f; rw [if_neg h0]) ht⟩
  · exact ⟨⟨#[]⟩, fun h' => absurd h' h⟩
def mkH (mt : Int → ByteArray) (m : Int) : S107 := ⟨m, m + 1, ⟨m + 1 + 1, ⟨Int.tmod (m + 1 + 1 + 1) 3 == 0, m + 1 + 1 + 1 + 1, m + 1 + 1 + 1 + 1 + 1⟩, mt (m + 1 + 1 + 1 + 1 + 1 + 1)⟩, Int.tmod (m + 1 + 1 + 1 + 1 + 1 + 1 + 1) 3 == 0⟩
theorem rdH_set (l : List S107) (i : Nat) (x : S107) (h : i < l.length) : rd_T107 (l.set i x) (i : Int) = x := by
  unfold rd_T107
  rw [Int.toNat_natCast, List.getD_eq_getElem?_getD, List.getElem?_set, if_pos rfl, if_pos h]; rfl
theorem rdH_of (l : List S107) (i : Nat) (x : S107) (h : l[i]? = some x) : rd_T107 l (i : Int) = x := by
  unfold rd_T107
  rw [Int.toNat_natCast, List.getD_eq_getElem?_getD, h]; rfl
theorem markH_step (mt : Int → ByteArray) (hmt : ∀ m, m ≤ 4000000000 → Ev (fun k => laws_markText.f k m) (mt m)) (l : List S107) (m : Int) (i : Nat) (r : Int × List S107) (hl : l.length ≤ 2097152) (hi : i < l.length) (h1 : 1 ≤ m) (h2 : m ≤ 200000000)
    (h : Ev (fun k => laws_markShownS.l0 k (l.set i (mkH mt m)) (m + 8) ((i + 1 : Nat) : Int)) r) : Ev (fun k => laws_markShownS.l0 k l m (i : Int)) r := by
  have e8 : m + 1 + 1 + 1 + 1 + 1 + 1 + 1 + 1 = m + 8 := by omega
  have wi := wrap_id (x := (i : Int) + 1) (by omega) (by omega)
  obtain ⟨w1, w2, w3, w4, w5, w6, w7, w8, _⟩ := wrapsUp m h1 h2
  refine Ev.step (f := fun k => (laws_markText.f k (m + 1 + 1 + 1 + 1 + 1 + 1)).bind fun t => laws_markShownS.l0 k (l.set i ⟨m, m + 1, ⟨m + 1 + 1, ⟨Int.tmod (m + 1 + 1 + 1) 3 == 0, m + 1 + 1 + 1 + 1, m + 1 + 1 + 1 + 1 + 1⟩, t⟩, Int.tmod (m + 1 + 1 + 1 + 1 + 1 + 1 + 1) 3 == 0⟩) (m + 8) ((i + 1 : Nat) : Int)) (fun k => ?_) (Ev.bind (hmt _ (by omega)) h)
  simp only [laws_markShownS.l0]
  rw [if_pos (by omega), if_pos (by omega)]
  simp only [Option.bind_some, w1, w2, w3, w4, w5, w6, w7, w8, wi, Int.toNat_natCast, rdH_set _ i _ hi, List.set_set, List.length_set]
  rw [e8]; rfl
theorem markH_any (mt : Int → ByteArray) (hmt : ∀ m, m ≤ 4000000000 → Ev (fun k => laws_markText.f k m) (mt m)) : ∀ (d i : Nat) (l : List S107) (m : Int), i + d = l.length → l.length ≤ 1048576 → 1 ≤ m → m + 8 * d ≤ 100000000 → ∃ l', Ev (fun k => laws_markShownS.l0 k l m (i : Int)) (m + 8 * d, l')
  | 0, i, l, m, hd, hl, h1, h2 => by
    refine ⟨l, Ev.step (f := fun _ => some (m + 8 * ((0 : Nat) : Int), l)) (fun k => ?_) (Ev.now _)⟩
    simp only [laws_markShownS.l0]
    rw [if_neg (by omega)]; simp
  | d + 1, i, l, m, hd, hl, h1, h2 => by
    obtain ⟨l', h⟩ := markH_any mt hmt d (i + 1) (l.set i (mkH mt m)) (m + 8) (by rw [List.length_set]; omega) (by rw [List.length_set]; exact hl) (by omega) (by omega)
    rw [show m + 8 + 8 * (d : Int) = m + 8 * ((d + 1 : Nat) : Int) from by omega] at h
    exact ⟨l', markH_step mt hmt l m i _ (by omega) (by omega) h1 (by omega) h⟩
theorem marksH (l : List S107) (hl : l.length ≤ 2097152) : ∃ m l', l'.length = l.length ∧ Ev (fun k => laws_markShownS.f k l 1) (m, l') ∧ Ev (fun k => laws_heldShownS.f k l' 1) m ∧ 0 ≤ m := by
  obtain ⟨mt, hmt⟩ := markText_all
  refine ev_marks2 (F := fun k l m i => laws_markShownS.l0 k l m i) (H := fun k l m i => laws_heldShownS.l0 k l m i) (mkH mt) 8 (by omega) l.length hl ?_ ?_ ?_ ?_ l rfl
  · intro x m i r hx hi h1 h2 h
    exact markH_step mt hmt x m i r (by omega) (by omega) h1 h2 h
  · intro x m hx
    refine Ev.step (f := fun _ => some (m, x)) (fun k => ?_) (Ev.now _)
    simp only [laws_markShownS.l0]
    rw [if_neg (by omega)]
  · intro x m i r hx hi hm h1 h2 h
    have hix : i < x.length := by omega
    have e8 : m + 1 + 1 + 1 + 1 + 1 + 1 + 1 + 1 = m + 8 := by omega
    have wi := wrap_id (x := (i : Int) + 1) (by have := hl; omega) (by have := hl; omega)
    obtain ⟨w1, w2, w3, w4, w5, w6, w7, w8, _⟩ := wrapsUp m h1 h2
    refine Ev.step (f := fun k => (laws_markText.f k (m + 1 + 1 + 1 + 1 + 1 + 1)).bind fun t => if (mt (m + 1 + 1 + 1 + 1 + 1 + 1)).toList = t.toList then laws_heldShownS.l0 k x (m + 8) ((i + 1 : Nat) : Int) else some (-1)) (fun k => ?_) (Ev.bind (hmt _ (by omega)) (Ev.congr (fun k => by rw [if_pos rfl]) h))
    simp only [laws_heldShownS.l0]
    rw [if_pos (by omega), if_pos (by omega)]
    simp only [rdH_of x i _ hm, mkH, w1, w2, w3, w4, w5, w6, w7, w8, wi, if_true, bne_self_eq_false, Bool.false_eq_true, if_false]
    rw [e8]; rfl
  · intro x m hx
    refine Ev.step (f := fun _ => some m) (fun k => ?_) (Ev.now _)
    simp only [laws_heldShownS.l0]
    rw [if_neg (by omega)]
theorem FnExactDiffer : ∀ (l0 : (List S101)) (l1 : (List S101)), QL Q101 l0 → QL Q101 l1 → ∃ k, laws_FnExactDiffer.f k l0 l1 = some true := by
  intro la lb hqa hqb
  refine Ev.rounds ?_
  unfold laws_FnExactDiffer.f
  rcases szShownS_ev la hqa 1048576 (by omega) (by omega) with h | ⟨t, t0, t1, ht, hl⟩
  · exact Ev.bind h (Ev.congr (f := fun _ => some true) (fun k => by rw [if_pos (by omega)]) (Ev.now _))
  refine Ev.bind ht (Ev.congr (fun k => by rw [if_neg (by omega)]) ?_)
  rcases szShownS_ev lb hqb t t0 t1 with h | ⟨u, u0, u1, hu, hm⟩
  · exact Ev.bind h (Ev.congr (f := fun _ => some true) (fun k => by rw [if_pos (by omega)]) (Ev.now _))
  refine Ev.bind hu (Ev.congr (fun k => by rw [if_neg (by omega)]) ?_)
  have hta := toShownS_ev la hl
  have htb := toShownS_ev lb hm
  have hla : (la.map convH).length ≤ 1048576 := by rw [List.length_map]; exact hl
  have hlb : (lb.map convH).length ≤ 1048576 := by rw [List.length_map]; exact hm
  obtain ⟨r, hr, hs, hi⟩ := differ_both (la.map convH) (lb.map convH) hla hlb
  have hrr := eqShownS_ev r hr
  obtain ⟨mt, hmt⟩ := markText_all
  obtain ⟨a', ha'⟩ := markH_any mt hmt (la.map convH).length 0 (la.map convH) 1 (by omega) hla (by omega) (by omega)
  obtain ⟨b', hb'⟩ := markH_any mt hmt (lb.map convH).length 0 (lb.map convH) (1 + 8 * ((la.map convH).length : Int)) (by omega) hlb (by omega) (by omega)
  obtain ⟨m, r', hr', hmk, hh, hm0⟩ := marksH r hr
  refine Ev.bind hta (Ev.bind htb (Ev.bind hs (Ev.bind hta (Ev.bind htb (Ev.bind hi (Ev.bind hrr ?_))))))
  simp only [if_true]
  refine Ev.bind hta (Ev.bind (eqShownS_ev _ (by omega)) ?_)
  simp only [if_true]
  refine Ev.bind htb (Ev.bind (eqShownS_ev _ (by omega)) ?_)
  simp only [if_true]
  have hj0 : Ev (fun k => laws_FnExactDiffer.j0 k la lb r r false) true := by
    refine Ev.step (fun k => by rw [laws_FnExactDiffer.j0, if_neg (by simp)]) (Ev.bind hmk (Ev.bind hh ?_))
    refine Ev.congr (fun k => by rw [if_neg (by omega), if_pos rfl]) ?_
    refine Ev.bind hta (Ev.bind htb (Ev.bind hi (Ev.bind hrr ?_)))
    simp only [if_true]
    exact Ev.bind hh (Ev.congr (f := fun _ => some true) (fun k => by rw [if_neg (by omega), if_pos rfl]) (Ev.now _))
  refine Ev.bind (show Ev (fun k => laws_markShownS.f k (la.map convH) 1) _ from ha') (Ev.bind (show Ev (fun k => laws_markShownS.f k (lb.map convH) (1 + 8 * ((la.map convH).length : Int))) _ from hb') ?_)
  refine Ev.congr (fun k => by rw [if_neg (by simp only; omega)]) (Ev.bind hrr ?_)
  exact hj0

end Go.Proofs.Ytojfkjggpdlngaa.Pure
