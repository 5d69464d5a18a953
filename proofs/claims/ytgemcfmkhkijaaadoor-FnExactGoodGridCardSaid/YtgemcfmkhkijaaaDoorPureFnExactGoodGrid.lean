/- The plain law of FnExactGoodGrid: what the program computes is what the reference computes, for every input (no further condition). -/
import Derived.Test.YtgemcfmkhkijaaaDoorMFnExactGoodGrida6
import Derived.Test.YtgemcfmkhkijaaaDoorRFnExactGoodGrid
namespace Go.Proofs.YtgemcfmkhkijaaaDoor.Pure
open Go.RowKit Go.Proofs.YtgemcfmkhkijaaaDoor.PFnExactGoodGrid Go.Proofs.YtgemcfmkhkijaaaDoorW.PrintWords Go.Proofs.YtgemcfmkhkijaaaDoorW.PrintLast

set_option linter.unusedVariables false
set_option linter.unusedSimpArgs false
/-! loops, by what they come to in the end ('Ev') -/
theorem ev_down {ρ : Type} {F : Nat → Int → Option ρ} {r : ρ} (n : Nat) (hs : ∀ i : Nat, i < n → Ev (fun k => F k ((i + 1 : Nat) : Int)) r → Ev (fun k => F k (i : Int)) r)
    (he : Ev (fun k => F k (n : Int)) r) : Ev (fun k => F k 0) r := by
  have h : ∀ d i : Nat, i + d = n → Ev (fun k => F k (i : Int)) r := by
    intro d
    induction d with
    | zero => intro i hi; obtain rfl : i = n := by omega
              exact he
    | succ d ih => intro i hi; exact hs i (by omega) (ih (i + 1) (by omega))
  exact h n 0 (by omega)
theorem ev_ex {ρ : Type} {F : Nat → Int → Option ρ} (n : Nat) (hs : ∀ i : Nat, i < n → (∃ r, Ev (fun k => F k ((i + 1 : Nat) : Int)) r) → ∃ r, Ev (fun k => F k (i : Int)) r)
    (he : ∃ r, Ev (fun k => F k (n : Int)) r) : ∃ r, Ev (fun k => F k 0) r := by
  have h : ∀ d i : Nat, i + d = n → ∃ r, Ev (fun k => F k (i : Int)) r := by
    intro d
    induction d with
    | zero => intro i hi; obtain rfl : i = n := by omega
              exact he
    | succ d ih => intro i hi; exact hs i (by omega) (ih (i + 1) (by omega))
  exact h n 0 (by omega)
theorem ev_to {α β : Type} {F : Nat → List β → Int → Option (List β)} (l : List α) (h : α → β) (z : β)
    (hs : ∀ (acc : List β) (i : Nat) (hi : i < l.length) (r : List β), acc.length = l.length → Ev (fun k => F k (acc.set i (h l[i])) ((i + 1 : Nat) : Int)) r → Ev (fun k => F k acc (i : Int)) r)
    (he : ∀ acc : List β, Ev (fun k => F k acc (l.length : Int)) acc) : Ev (fun k => F k (List.replicate l.length z) 0) (l.map h) := by
  have g : ∀ (d i : Nat) (acc : List β), i + d = l.length → acc.length = l.length → (∀ j : Nat, j < i → acc[j]? = (l.map h)[j]?) → Ev (fun k => F k acc (i : Int)) (l.map h) := by
    intro d
    induction d with
    | zero =>
      intro i acc hi hl hp
      obtain rfl : i = l.length := by omega
      have e : acc = l.map h := by
        refine List.ext_getElem? fun j => ?_
        by_cases hj : j < l.length
        · exact hp j hj
        · rw [List.getElem?_eq_none (by omega), List.getElem?_eq_none (by rw [List.length_map]; omega)]
      have := he acc
      rw [e] at this ⊢; exact this
    | succ d ih =>
      intro i acc hi hl hp
      refine hs acc i (by omega) _ hl (ih (i + 1) _ (by omega) (by rw [List.length_set]; exact hl) fun j hj => ?_)
      rw [List.getElem?_set]
      by_cases e : i = j
      · subst e
        rw [if_pos rfl, if_pos (by omega), List.getElem?_map, List.getElem?_eq_getElem (by omega)]; rfl
      · rw [if_neg e]; exact hp j (by omega)
  exact g l.length 0 _ (by omega) List.length_replicate (fun j hj => absurd hj (by omega))
theorem ev_sz {α : Type} {F : Nat → Int → Int → Option Int} (l : List α) (B : α → Prop)
    (hs : ∀ (i : Nat) (hi : i < l.length) (left : Int), 0 ≤ left → left ≤ 1048576 →
      Ev (fun k => F k left (i : Int)) (-1) ∨ (∃ left', 0 ≤ left' ∧ left' ≤ left ∧ B l[i] ∧ ∀ t, Ev (fun k => F k left' ((i + 1 : Nat) : Int)) t → Ev (fun k => F k left (i : Int)) t))
    (he : ∀ left, Ev (fun k => F k left (l.length : Int)) left) (left : Int) (h0 : 0 ≤ left) (h1 : left ≤ 1048576) :
    Ev (fun k => F k left 0) (-1) ∨ ∃ t, 0 ≤ t ∧ t ≤ left ∧ Ev (fun k => F k left 0) t ∧ ∀ x ∈ l, B x := by
  have g : ∀ (d i : Nat) (left : Int), i + d = l.length → 0 ≤ left → left ≤ 1048576 → Ev (fun k => F k left (i : Int)) (-1) ∨ ∃ t, 0 ≤ t ∧ t ≤ left ∧ Ev (fun k => F k left (i : Int)) t ∧ ∀ j (hj : j < l.length), i ≤ j → B l[j] := by
    intro d
    induction d with
    | zero =>
      intro i left hi h0 h1
      obtain rfl : i = l.length := by omega
      exact .inr ⟨left, h0, Int.le_refl _, he left, fun j hj hij => absurd hj (by omega)⟩
    | succ d ih =>
      intro i left hi h0 h1
      rcases hs i (by omega) left h0 h1 with h | ⟨left', g0, g1, hB, hk⟩
      · exact .inl h
      · rcases ih (i + 1) left' (by omega) g0 (by omega) with h | ⟨t, t0, t1, ht, hb⟩
        · exact .inl (hk _ h)
        · refine .inr ⟨t, t0, by omega, hk _ ht, fun j hj hij => ?_⟩
          by_cases e : i = j
          · subst e; exact hB
          · exact hb j hj (by omega)
  rcases g l.length 0 left (by omega) h0 h1 with h | ⟨t, t0, t1, ht, hb⟩
  · exact .inl h
  · refine .inr ⟨t, t0, t1, ht, fun x hx => ?_⟩
    obtain ⟨j, hj, rfl⟩ := List.getElem_of_mem hx
    exact hb j hj (Nat.zero_le _)
theorem getD_at {α : Type} (l : List α) (z : α) (i : Nat) (h : i < l.length) : l.getD ((i : Int)).toNat z = l[i] := by
  rw [Int.toNat_natCast, List.getD_eq_getElem?_getD, List.getElem?_eq_getElem h]; rfl
theorem ev_all {α : Type} {F : Nat → Int → Option Bool} (l : List α) (p : α → Bool) (b : Bool)
    (hs : ∀ (i : Nat) (hi : i < l.length) (r : Bool), p l[i] = true → Ev (fun k => F k ((i + 1 : Nat) : Int)) r → Ev (fun k => F k (i : Int)) r)
    (hf : ∀ (i : Nat) (hi : i < l.length) (r : Bool), p l[i] = false → Ev (fun k => F k ((i + 1 : Nat) : Int)) r → Ev (fun k => F k (i : Int)) false)
    (he : Ev (fun k => F k (l.length : Int)) b) : Ev (fun k => F k 0) (l.all p && b) := by
  have h : ∀ d i : Nat, i + d = l.length → Ev (fun k => F k (i : Int)) ((l.drop i).all p && b) := by
    intro d
    induction d with
    | zero =>
      intro i hi; obtain rfl : i = l.length := by omega
      rw [List.drop_length]; exact he
    | succ d ih =>
      intro i hi
      have hlt : i < l.length := by omega
      rw [List.drop_eq_getElem_cons hlt, List.all_cons]
      cases hp : p l[i]
      · exact hf i hlt _ hp (ih (i + 1) (by omega))
      · exact hs i hlt _ hp (ih (i + 1) (by omega))
  exact h l.length 0 (by omega)

theorem at33 (l : List S33) (i : Nat) (h : i < l.length) : rd_T33 l (i : Int) = l[i] := getD_at l _ i h
theorem at37 (l : List S37) (i : Nat) (h : i < l.length) : rd_T37 l (i : Int) = l[i] := getD_at l _ i h
def conv (x : S33) : S37 := ⟨x.f0, ⟨x.f1.f0, x.f1.f1, x.f1.f2⟩, x.f2⟩
theorem toValueS_ev (l : List S33) (hl : l.length ≤ 1048576) : Ev (fun k => laws_toValueS.f k l) (l.map conv) := by
  unfold laws_toValueS.f
  refine Ev.congr (f := fun k => laws_toValueS.l0 k l (List.replicate l.length z37) 0) (fun k => by rw [if_pos (by omega), if_pos (by omega), Int.toNat_natCast]) ?_
  refine ev_to (F := fun k acc i => laws_toValueS.l0 k l acc i) l conv z37 ?_ ?_
  · intro acc i hi r hacc h
    refine Ev.step (fun k => ?_) h
    simp only [laws_toValueS.l0]
    rw [if_pos (by omega), if_pos (by omega), at33 l i hi]
    simp only [laws_toValue.f, laws_toDec.f, Option.bind_some]
    rw [if_pos (by omega), wrap_id (x := (i : Int) + 1) (by omega) (by omega), Int.toNat_natCast]
    rfl
  · intro acc
    refine Ev.step (fun k => ?_) (Ev.now acc)
    simp only [laws_toValueS.l0]
    rw [if_neg (by omega)]
theorem eqDec_is (n : Bool) (d e : Int) : laws_eqDec.f n d e n d e = some true := by unfold laws_eqDec.f; simp
theorem eqValue_is (k : Int) (n : Bool) (d e : Int) (s : ByteArray) : laws_eqValue.f k n d e s k n d e s = some true := by
  unfold laws_eqValue.f; simp [eqDec_is]
theorem eqValueS_ev (l : List S37) (hl : l.length ≤ 1048576) : Ev (fun k => laws_eqValueS.f k l l) true := by
  unfold laws_eqValueS.f
  refine Ev.congr (f := fun k => laws_eqValueS.l0 k l l 0) (fun k => by rw [if_pos rfl]) ?_
  refine ev_down (F := fun k i => laws_eqValueS.l0 k l l i) l.length ?_ ?_
  · intro i hi h
    refine Ev.step (fun k => ?_) h
    simp only [laws_eqValueS.l0]
    rw [if_pos (by omega), if_pos (by omega), if_pos (by omega), at37 l i hi]
    simp only [eqValue_is, Option.bind_some, if_true]
    rw [wrap_id (x := (i : Int) + 1) (by omega) (by omega)]
    rfl
  · refine Ev.step (fun k => ?_) (Ev.now true)
    simp only [laws_eqValueS.l0]
    rw [if_neg (by omega)]
theorem szValueS_ev (l : List S33) (hq : QL Q33 l) : Ev (fun k => laws_szValueS.f k l 1048576) (-1) ∨ ∃ t, 0 ≤ t ∧ Ev (fun k => laws_szValueS.f k l 1048576) t ∧ l.length ≤ 1048576 ∧ ∀ x ∈ l, x.f2.size ≤ 1048576 := by
  have hl := hq.1
  unfold laws_szValueS.f
  rw [wrap_id (x := 1048576 - (l.length : Int)) (by omega) (by omega)]
  by_cases h : 1048576 - (l.length : Int) < 0
  · exact .inl (Ev.congr (f := fun _ => some (-1)) (fun k => by rw [if_pos h]) (Ev.now _))
  · have e : ∀ k, (if 1048576 - (l.length : Int) < 0 then some (-1) else laws_szValueS.l0 k l (1048576 - (l.length : Int)) 0) = laws_szValueS.l0 k l (1048576 - (l.length : Int)) 0 := fun k => by rw [if_neg h]
    have := ev_sz (F := fun k left i => laws_szValueS.l0 k l left i) l (fun x => x.f2.size ≤ 1048576) ?_ ?_ (1048576 - (l.length : Int)) (by omega) (by omega)
    · rcases this with h1 | ⟨t, t0, t1, ht, hb⟩
      · exact .inl (Ev.congr e h1)
      · exact .inr ⟨t, t0, Ev.congr e ht, by omega, hb⟩
    · intro i hi left h0 h1
      have hs : (l[i]).f2.size ≤ maxLen := (hq.2 _ (List.getElem_mem hi)).2.2
      unfold maxLen at hs
      have w := wrap_id (x := left - ((l[i]).f2.size : Int)) (by omega) (by omega)
      by_cases hneg : left - ((l[i]).f2.size : Int) < 0
      · left
        refine Ev.step (fun k => ?_) (Ev.now (-1))
        simp only [laws_szValueS.l0]
        rw [if_pos (by omega), if_pos (by omega), at33 l i hi]
        simp only [laws_szValue.f, w, if_pos hneg, Option.bind_some]
        rfl
      · right
        refine ⟨left - ((l[i]).f2.size : Int), by omega, by omega, by omega, fun t ht => ?_⟩
        refine Ev.step (fun k => ?_) ht
        simp only [laws_szValueS.l0]
        rw [if_pos (by omega), if_pos (by omega), at33 l i hi]
        simp only [laws_szValue.f, w, if_neg hneg, Option.bind_some]
        rw [wrap_id (x := (i : Int) + 1) (by omega) (by omega)]
        rfl
    · intro left
      refine Ev.step (fun k => ?_) (Ev.now left)
      simp only [laws_szValueS.l0]
      rw [if_neg (by omega)]
def pval (x : S37) : Bool := goodValB x.f0 x.f1.f0 x.f1.f1 x.f1.f2 x.f2
theorem specVal_ev (x : S37) (h : x.f2.size ≤ 1048576) : Ev (fun k => spec_GoodValue.f k x.f0 x.f1.f0 x.f1.f1 x.f1.f2 x.f2) (pval x) := ⟨1048590, fun k hk => specGoodValue_is _ _ _ _ _ h k hk⟩
theorem implVal_ev (x : S37) (h : x.f2.size ≤ 1048576) : Ev (fun _ => impl_GoodValue.f x.f0 x.f1.f0 x.f1.f1 x.f1.f2 x.f2) (pval x) := ⟨0, fun k hk => by unfold impl_GoodValue.f; rw [if_pos h]; rfl⟩
def gridB (r c : Int) (L : List S37) : Bool :=
  if r < 1 then (!true && L.all pval) else if c < 1 then (!true && L.all pval) else if r > 2000 then (!true && L.all pval) else if c > 2000 then (!true && L.all pval) else if wrap64 (r * c) > 2000 then (!true && L.all pval) else (!((L.length : Int) != wrap64 (r * c)) && L.all pval)
theorem specList_ev (L : List S37) (hb : ∀ x ∈ L, x.f2.size ≤ 1048576) (hl : L.length ≤ 1048576) : Ev (fun k => spec_GoodGrid.l0 k L (L.length : Int) 0) (L.all pval) := by
  rw [show L.all pval = (L.all pval && true) from (Bool.and_true _).symm]
  refine ev_all (F := fun k i => spec_GoodGrid.l0 k L (L.length : Int) i) L pval true ?_ ?_ ?_
  · intro i hi r hp h
    have hv := specVal_ev L[i] (hb _ (List.getElem_mem hi))
    rw [hp] at hv
    refine Ev.step (fun k => ?_) (Ev.bind (f := fun k t => if t = true then spec_GoodGrid.l0 k L (L.length : Int) ((i + 1 : Nat) : Int) else some false) hv (Ev.congr (fun k => by rw [if_pos rfl]) h))
    simp only [spec_GoodGrid.l0]
    rw [if_pos (by omega), if_pos (by omega), if_pos (by omega), at37 L i hi, wrap_id (x := (i : Int) + 1) (by omega) (by omega)]
    rfl
  · intro i hi r hp h
    have hv := specVal_ev L[i] (hb _ (List.getElem_mem hi))
    rw [hp] at hv
    refine Ev.step (fun k => ?_) (Ev.bind (f := fun k t => if t = true then spec_GoodGrid.l0 k L (L.length : Int) ((i + 1 : Nat) : Int) else some false) hv (Ev.congr (f := fun _ => some false) (fun k => by rw [if_neg (by decide)]) (Ev.now false)))
    simp only [spec_GoodGrid.l0]
    rw [if_pos (by omega), if_pos (by omega), if_pos (by omega), at37 L i hi, wrap_id (x := (i : Int) + 1) (by omega) (by omega)]
    rfl
  · refine Ev.step (fun k => ?_) (Ev.now true)
    simp only [spec_GoodGrid.l0]
    rw [if_neg (by omega)]
theorem specj_ev (b : Bool) (r c : Int) (L : List S37) (hb : ∀ x ∈ L, x.f2.size ≤ 1048576) (hl : L.length ≤ 1048576) : Ev (fun k => spec_GoodGrid.j0 k b r c L) (!b && L.all pval) := by
  cases b
  · refine Ev.step (fun k => ?_) (specList_ev L hb hl)
    simp only [spec_GoodGrid.j0, Bool.false_eq_true, if_false]
  · refine Ev.step (fun k => ?_) (Ev.now false)
    simp only [spec_GoodGrid.j0, if_true]
theorem specGrid_ev (r c : Int) (L : List S37) (hb : ∀ x ∈ L, x.f2.size ≤ 1048576) (hl : L.length ≤ 1048576) : Ev (fun k => spec_GoodGrid.f k r c L) (gridB r c L) := by
  unfold spec_GoodGrid.f gridB
  by_cases h1 : r < 1
  · rw [if_pos h1]; exact Ev.congr (fun k => by rw [if_pos h1]) (specj_ev true r c L hb hl)
  by_cases h2 : c < 1
  · rw [if_neg h1, if_pos h2]; exact Ev.congr (fun k => by rw [if_neg h1, if_pos h2]) (specj_ev true r c L hb hl)
  by_cases h3 : r > 2000
  · rw [if_neg h1, if_neg h2, if_pos h3]; exact Ev.congr (fun k => by rw [if_neg h1, if_neg h2, if_pos h3]) (specj_ev true r c L hb hl)
  by_cases h4 : c > 2000
  · rw [if_neg h1, if_neg h2, if_neg h3, if_pos h4]; exact Ev.congr (fun k => by rw [if_neg h1, if_neg h2, if_neg h3, if_pos h4]) (specj_ev true r c L hb hl)
  by_cases h5 : wrap64 (r * c) > 2000
  · rw [if_neg h1, if_neg h2, if_neg h3, if_neg h4, if_pos h5]; exact Ev.congr (fun k => by rw [if_neg h1, if_neg h2, if_neg h3, if_neg h4, if_pos h5]) (specj_ev true r c L hb hl)
  rw [if_neg h1, if_neg h2, if_neg h3, if_neg h4, if_neg h5]
  exact Ev.congr (fun k => by rw [if_neg h1, if_neg h2, if_neg h3, if_neg h4, if_neg h5]) (specj_ev _ r c L hb hl)
theorem implList_ev (L : List S37) (hb : ∀ x ∈ L, x.f2.size ≤ 1048576) (hl : L.length ≤ 1048576) : Ev (fun k => impl_GoodGrid.l0 k L (L.length : Int) 0) (L.all pval) := by
  rw [show L.all pval = (L.all pval && true) from (Bool.and_true _).symm]
  refine ev_all (F := fun k i => impl_GoodGrid.l0 k L (L.length : Int) i) L pval true ?_ ?_ ?_
  · intro i hi r hp h
    have hv := implVal_ev L[i] (hb _ (List.getElem_mem hi))
    rw [hp] at hv
    refine Ev.step (fun k => ?_) (Ev.bind (f := fun k t => if t = true then impl_GoodGrid.l0 k L (L.length : Int) ((i + 1 : Nat) : Int) else some false) hv (Ev.congr (fun k => by rw [if_pos rfl]) h))
    simp only [impl_GoodGrid.l0]
    rw [if_pos (by omega), if_pos (by omega), if_pos (by omega), at37 L i hi, wrap_id (x := (i : Int) + 1) (by omega) (by omega)]
    rfl
  · intro i hi r hp h
    have hv := implVal_ev L[i] (hb _ (List.getElem_mem hi))
    rw [hp] at hv
    refine Ev.step (fun k => ?_) (Ev.bind (f := fun k t => if t = true then impl_GoodGrid.l0 k L (L.length : Int) ((i + 1 : Nat) : Int) else some false) hv (Ev.congr (f := fun _ => some false) (fun k => by rw [if_neg (by decide)]) (Ev.now false)))
    simp only [impl_GoodGrid.l0]
    rw [if_pos (by omega), if_pos (by omega), if_pos (by omega), at37 L i hi, wrap_id (x := (i : Int) + 1) (by omega) (by omega)]
    rfl
  · refine Ev.step (fun k => ?_) (Ev.now true)
    simp only [impl_GoodGrid.l0]
    rw [if_neg (by omega)]
theorem implj_ev (b : Bool) (r c : Int) (L : List S37) (hb : ∀ x ∈ L, x.f2.size ≤ 1048576) (hl : L.length ≤ 1048576) : Ev (fun k => impl_GoodGrid.j0 k b r c L) (!b && L.all pval) := by
  cases b
  · refine Ev.step (fun k => ?_) (implList_ev L hb hl)
    simp only [impl_GoodGrid.j0, Bool.false_eq_true, if_false]
  · refine Ev.step (fun k => ?_) (Ev.now false)
    simp only [impl_GoodGrid.j0, if_true]
theorem implGrid_ev (r c : Int) (L : List S37) (hb : ∀ x ∈ L, x.f2.size ≤ 1048576) (hl : L.length ≤ 1048576) : Ev (fun k => impl_GoodGrid.f k r c L) (gridB r c L) := by
  unfold impl_GoodGrid.f gridB
  by_cases h1 : r < 1
  · rw [if_pos h1]; exact Ev.congr (fun k => by rw [if_pos h1]) (implj_ev true r c L hb hl)
  by_cases h2 : c < 1
  · rw [if_neg h1, if_pos h2]; exact Ev.congr (fun k => by rw [if_neg h1, if_pos h2]) (implj_ev true r c L hb hl)
  by_cases h3 : r > 2000
  · rw [if_neg h1, if_neg h2, if_pos h3]; exact Ev.congr (fun k => by rw [if_neg h1, if_neg h2, if_pos h3]) (implj_ev true r c L hb hl)
  by_cases h4 : c > 2000
  · rw [if_neg h1, if_neg h2, if_neg h3, if_pos h4]; exact Ev.congr (fun k => by rw [if_neg h1, if_neg h2, if_neg h3, if_pos h4]) (implj_ev true r c L hb hl)
  by_cases h5 : wrap64 (r * c) > 2000
  · rw [if_neg h1, if_neg h2, if_neg h3, if_neg h4, if_pos h5]; exact Ev.congr (fun k => by rw [if_neg h1, if_neg h2, if_neg h3, if_neg h4, if_pos h5]) (implj_ev true r c L hb hl)
  rw [if_neg h1, if_neg h2, if_neg h3, if_neg h4, if_neg h5]
  exact Ev.congr (fun k => by rw [if_neg h1, if_neg h2, if_neg h3, if_neg h4, if_neg h5]) (implj_ev _ r c L hb hl)
theorem FnExactGoodGrid : ∀ (a0_0 : Int) (a0_1 : Int) (l0_2 : (List S33)), (Lit.int .i64 a0_0).wf = true → (Lit.int .i64 a0_1).wf = true → QL Q33 l0_2 → ∃ k, laws_FnExactGoodGrid.f k a0_0 a0_1 l0_2 = some true := by
  intro r c l _ _ hq
  refine Ev.rounds ?_
  unfold laws_FnExactGoodGrid.f
  rcases szValueS_ev l hq with h | ⟨t, t0, ht, hl, hb⟩
  · have h' : Ev (fun k => laws_szGrid.f k r c l 1048576) (-1) := by
      unfold laws_szGrid.f
      exact Ev.bind h (Ev.congr (f := fun _ => some (-1)) (fun k => by rw [if_pos (by omega)]) (Ev.now (-1)))
    exact Ev.bind h' (Ev.congr (f := fun _ => some true) (fun k => by rw [if_pos (by omega)]) (Ev.now true))
  · have h' : Ev (fun k => laws_szGrid.f k r c l 1048576) t := by
      unfold laws_szGrid.f
      exact Ev.bind ht (Ev.congr (f := fun _ => some t) (fun k => by rw [if_neg (by omega)]) (Ev.now t))
    refine Ev.bind h' (Ev.congr (fun k => by rw [if_neg (by omega : ¬ t < 0)]) ?_)
    have h1 : Ev (fun k => laws_toGrid.f k r c l) (r, c, l.map conv) := by
      unfold laws_toGrid.f
      exact Ev.bind (toValueS_ev l hl) (Ev.now _)
    have hm : (l.map conv).length ≤ 1048576 := by rw [List.length_map]; exact hl
    have hbm : ∀ x ∈ l.map conv, x.f2.size ≤ 1048576 := by
      intro x hx
      obtain ⟨y, hy, rfl⟩ := List.mem_map.1 hx
      exact hb y hy
    refine Ev.bind h1 (Ev.bind (specGrid_ev r c _ hbm hm) (Ev.bind h1 (Ev.bind (implGrid_ev r c _ hbm hm) ?_)))
    simp only [bne_self_eq_false, Bool.false_eq_true, if_false]
    refine Ev.bind h1 (Ev.bind (a := true) ?_ (Ev.now true))
    unfold laws_eqGrid.f
    refine Ev.congr (f := fun k => (laws_eqValueS.f k (l.map conv) (l.map conv)).bind fun t163 => if t163 = true then some true else some false) (fun k => by simp only [if_true]) ?_
    exact Ev.bind (eqValueS_ev _ hm) (Ev.now true)

end Go.Proofs.YtgemcfmkhkijaaaDoor.Pure
