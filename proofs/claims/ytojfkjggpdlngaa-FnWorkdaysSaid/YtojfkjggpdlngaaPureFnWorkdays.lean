/- The plain law of FnWorkdays: what the program computes is what the reference computes, for every input (no further condition). -/
import Derived.Test.YtojfkjggpdlngaaMFnWorkdaysa3
import Derived.Test.YtojfkjggpdlngaaRFnWorkdays
namespace Go.Proofs.Ytojfkjggpdlngaa.Pure
open Go.RowKit Go.Proofs.Ytojfkjggpdlngaa.PFnWorkdays Go.Proofs.YtojfkjggpdlngaaW.PrintWords Go.Proofs.YtojfkjggpdlngaaW.PrintLast

set_option linter.unusedVariables false
set_option linter.unusedSimpArgs false
/-! the cursor that draws: it always answers -/
def Bytes (l : List Int) : Prop := ∀ x ∈ l, 0 ≤ x ∧ x ≤ 255
theorem bytes_of {l : List Int} (h : ∀ x ∈ l, (Lit.int .u8 x).wf = true) : Bytes l := fun x hx => by
  have := h x hx
  simpa [Lit.wf, IntKind.min, IntKind.max, IntKind.signed, IntKind.bits] using this
theorem wf64_of {x : Int} (h1 : -9223372036854775808 ≤ x) (h2 : x ≤ 9223372036854775807) : (Lit.int .i64 x).wf = true := by
  simp [Lit.wf, IntKind.min, IntKind.max, IntKind.signed, IntKind.bits]
  exact ⟨h1, h2⟩
theorem wrap_rng (x : Int) : -9223372036854775808 ≤ wrap64 x ∧ wrap64 x ≤ 9223372036854775807 := by unfold wrap64; omega
theorem wf_wrap (x : Int) : (Lit.int .i64 (wrap64 x)).wf = true := wf64_of (wrap_rng x).1 (wrap_rng x).2
theorem wrapu_rng (x : Int) : 0 ≤ IntKind.u64.wrap x ∧ IntKind.u64.wrap x < 18446744073709551616 := by
  have e : IntKind.u64.wrap x = x % 18446744073709551616 := rfl
  rw [e]; omega
theorem wrapu_id {x : Int} (h1 : 0 ≤ x) (h2 : x < 18446744073709551616) : IntKind.u64.wrap x = x := by
  have e : IntKind.u64.wrap x = x % 18446744073709551616 := rfl
  rw [e]; omega
theorem byte_rd {l : List Int} (hb : Bytes l) {i : Int} (h0 : 0 ≤ i) (h1 : i < l.length) : 0 ≤ rd l i ∧ rd l i ≤ 255 := by
  have hlt : i.toNat < l.length := by omega
  have e : rd l i = l[i.toNat] := by unfold rd; rw [List.getD_eq_getElem?_getD, List.getElem?_eq_getElem hlt]; rfl
  rw [e]; exact hb _ (List.getElem_mem hlt)
theorem and255 (x : Int) : 0 ≤ Go.bits .and .u64 x 255 ∧ Go.bits .and .u64 x 255 ≤ 255 := by
  show 0 ≤ IntKind.u64.wrap (((BitVec.ofInt 64 x) &&& (BitVec.ofInt 64 255)).toNat : Int) ∧ IntKind.u64.wrap (((BitVec.ofInt 64 x) &&& (BitVec.ofInt 64 255)).toNat : Int) ≤ 255
  have e : (BitVec.ofInt 64 255).toNat = 255 := by decide
  have h : ((BitVec.ofInt 64 x) &&& (BitVec.ofInt 64 255)).toNat ≤ 255 := by
    rw [BitVec.toNat_and, e]; exact Nat.and_le_right
  generalize ((BitVec.ofInt 64 x) &&& (BitVec.ofInt 64 255)).toNat = n at h
  rw [wrapu_id (by omega) (by omega)]; omega
theorem or_rng (p q : Int) : 0 ≤ Go.bits .or .u64 p q ∧ Go.bits .or .u64 p q < 18446744073709551616 := by
  show 0 ≤ IntKind.u64.wrap (((BitVec.ofInt 64 p) ||| (BitVec.ofInt 64 q)).toNat : Int) ∧ IntKind.u64.wrap (((BitVec.ofInt 64 p) ||| (BitVec.ofInt 64 q)).toNat : Int) < 18446744073709551616
  exact wrapu_rng _
theorem next_ok (l : List Int) (hb : Bytes l) (a s : Int) (h0 : 0 ≤ a) (h1 : a ≤ 4611686018427387904) : ∃ b s', spec_l1Cur_next.f l a s = some (b, a + 1, s') ∧ 0 ≤ b ∧ b ≤ 255 := by
  unfold spec_l1Cur_next.f
  have hw : wrap64 (a + 1) = a + 1 := wrap_id (by omega) (by omega)
  by_cases h : a < (l.length : Int)
  · have hr := byte_rd hb h0 h
    rw [if_pos h, if_pos h0, hw, if_pos (by omega)]
    exact ⟨_, _, rfl, by rw [wrap_id (by omega) (by omega)]; exact hr.1, by rw [wrap_id (by omega) (by omega)]; exact hr.2⟩
  · rw [if_neg h, hw, if_neg (by omega)]
    have h2 := and255 (IntKind.u64.wrap (IntKind.u64.wrap (IntKind.u64.wrap (s * 6364136223846793005) + 0) + 1442695040888963407) / 1099511627776)
    exact ⟨_, _, rfl, by rw [wrap_id (by omega) (by omega)]; exact h2.1, by rw [wrap_id (by omega) (by omega)]; exact h2.2⟩
theorem pick_ok (l : List Int) (hb : Bytes l) (a s n : Int) (h0 : 0 ≤ a) (h1 : a ≤ 4611686018427387000) : ∃ x a' s', spec_l1Cur_pick.f l a s n = some (x, a', s') ∧ a ≤ a' ∧ a' ≤ a + 2 ∧ 0 ≤ x ∧ (1 ≤ n → x < n) := by
  unfold spec_l1Cur_pick.f
  by_cases hn : n ≤ 1
  · rw [if_pos hn]; exact ⟨0, a, s, rfl, by omega, by omega, by omega, fun _ => by omega⟩
  · rw [if_neg hn]
    obtain ⟨b, s1, e1, b0, b1⟩ := next_ok l hb a s h0 (by omega)
    rw [e1]; simp only [Option.bind_some]
    by_cases hg : n > 200
    · rw [if_pos hg]
      obtain ⟨c, s2, e2, c0, c1⟩ := next_ok l hb (a + 1) s1 (by omega) (by omega)
      rw [e2]; simp only [Option.bind_some]
      rw [if_neg (by omega), wrap_id (x := b * 256) (by omega) (by omega), wrap_id (by omega) (by omega), tm_pos (by omega)]
      exact ⟨_, _, _, rfl, by omega, by omega, Int.emod_nonneg _ (by omega), fun _ => Int.emod_lt_of_pos _ (by omega)⟩
    · rw [if_neg hg, if_neg (by omega), tm_pos b0]
      exact ⟨_, _, _, rfl, by omega, by omega, Int.emod_nonneg _ (by omega), fun _ => Int.emod_lt_of_pos _ (by omega)⟩

theorem one_ok (l : List Int) (hb : Bytes l) (a s n : Int) (h0 : 0 ≤ a) (h1 : a ≤ 4611686018427387000) : ∃ x a' s', spec_l1Cur_one.f l a s n = some (x, a', s') ∧ a ≤ a' ∧ a' ≤ a + 2 := by
  obtain ⟨x, a', s', e, h2, h3, _⟩ := pick_ok l hb a s n h0 h1
  unfold spec_l1Cur_one.f
  rw [e]; exact ⟨_, a', s', rfl, h2, h3⟩

theorem wide_l0 (l : List Int) (hb : Bytes l) : ∀ (d : Nat) (x i a s : Int), (8 : Int) - i = d → 0 ≤ i → 0 ≤ a → a + d ≤ 4611686018427387000 → 0 ≤ x ∧ x < 18446744073709551616 →
    ∃ y a' s', Ev (fun k => spec_l1Cur_wide.l0 k x i l a s) (y, a', s') ∧ a' = a + d ∧ 0 ≤ y ∧ y < 18446744073709551616
  | 0, x, i, a, s, hd, h0, ha, h1, hx => ⟨x, a, s, Ev.step (f := fun _ => some (x, a, s)) (fun k => by simp only [spec_l1Cur_wide.l0]; rw [if_neg (by omega)]) (Ev.now _), by omega, hx.1, hx.2⟩
  | d + 1, x, i, a, s, hd, h0, ha, h1, hx => by
    obtain ⟨b, s1, e1, b0, b1⟩ := next_ok l hb a s ha (by omega)
    obtain ⟨y, a', s', e2, e3, e4, e5⟩ := wide_l0 l hb d (Go.bits .or .u64 (IntKind.u64.wrap (x * 256)) (IntKind.u64.wrap b)) (i + 1) (a + 1) s1 (by omega) (by omega) (by omega) (by omega) (or_rng _ _)
    refine ⟨y, a', s', Ev.step (f := fun k => spec_l1Cur_wide.l0 k (Go.bits .or .u64 (IntKind.u64.wrap (x * 256)) (IntKind.u64.wrap b)) (i + 1) l (a + 1) s1) (fun k => ?_) e2, by omega, e4, e5⟩
    simp only [spec_l1Cur_wide.l0]
    rw [if_pos (by omega), e1]; simp only [Option.bind_some]
    rw [wrap_id (x := i + 1) (by omega) (by omega)]
theorem wide_ok (l : List Int) (hb : Bytes l) (a s : Int) (h0 : 0 ≤ a) (h1 : a ≤ 4611686018427386000) : ∃ y a' s', Ev (fun k => spec_l1Cur_wide.f k l a s) (y, a', s') ∧ a ≤ a' ∧ a' ≤ a + 8 ∧ 0 ≤ y ∧ y < 18446744073709551616 := by
  obtain ⟨y, a', s', e, h2, h3, h4⟩ := wide_l0 l hb 8 0 0 a s (by omega) (by omega) h0 (by omega) (by omega)
  exact ⟨y, a', s', e, by omega, by omega, h3, h4⟩
theorem day_ok (l : List Int) (hb : Bytes l) (a s : Int) (h0 : 0 ≤ a) (h1 : a ≤ 4611686018427380000) : ∃ x a' s', Ev (fun k => spec_l1Cur_day.f k l a s) (x, a', s') ∧ a ≤ a' ∧ a' ≤ a + 10 ∧ -3000000 ≤ x ∧ x ≤ 3000000 := by
  obtain ⟨p, a1, s1, e1, h2, h3, p0, p1⟩ := pick_ok l hb a s 8 h0 (by omega)
  have p1 := p1 (by omega)
  by_cases c0 : p = 0
  · obtain ⟨q, a2, s2, e2, h4, h5, q0, q1⟩ := pick_ok l hb a1 s1 8 (by omega) (by omega)
    have q1 := q1 (by omega)
    refine ⟨rd [0, -1, 1000000, -1000000, 1000001, 59, 60, -36525] q, a2, s2, Ev.congr (f := fun _ => some (rd [0, -1, 1000000, -1000000, 1000001, 59, 60, -36525] q, a2, s2)) (fun k => ?_) (Ev.now _), by omega, by omega, ?_⟩
    · unfold spec_l1Cur_day.f
      rw [e1]; simp only [Option.bind_some]
      rw [if_pos c0, e2]; simp only [Option.bind_some]
      rw [if_pos q0, if_pos (by simp; omega)]
    · have hq : q = 0 ∨ q = 1 ∨ q = 2 ∨ q = 3 ∨ q = 4 ∨ q = 5 ∨ q = 6 ∨ q = 7 := by omega
      rcases hq with rfl | rfl | rfl | rfl | rfl | rfl | rfl | rfl <;> decide
  · by_cases c1 : p = 1
    · obtain ⟨q, a2, s2, e2, h4, h5, q0, q1⟩ := pick_ok l hb a1 s1 2000001 (by omega) (by omega)
      have q1 := q1 (by omega)
      refine ⟨q - 1000000, a2, s2, Ev.congr (f := fun _ => some (q - 1000000, a2, s2)) (fun k => ?_) (Ev.now _), by omega, by omega, by omega, by omega⟩
      unfold spec_l1Cur_day.f
      rw [e1]; simp only [Option.bind_some]
      rw [if_neg c0, if_pos c1, e2]; simp only [Option.bind_some]
      rw [wrap_id (by omega) (by omega)]
    · by_cases c2 : p = 2
      · obtain ⟨q, a2, s2, e2, h4, h5, q0, q1⟩ := wide_ok l hb a1 s1 (by omega) (by omega)
        refine ⟨q / 17592186044416 - 524288, a2, s2, Ev.congr (f := fun k => (spec_l1Cur_wide.f k l a1 s1).bind fun bt => some (wrap64 (wrap64 (bt.1 / 17592186044416) - 524288), bt.2.1, bt.2.2)) (fun k => ?_) (Ev.bind e2 (Ev.congr (f := fun _ => some (q / 17592186044416 - 524288, a2, s2)) (fun k => ?_) (Ev.now _))), by omega, by omega, by omega, by omega⟩
        · unfold spec_l1Cur_day.f
          rw [e1]; simp only [Option.bind_some]
          rw [if_neg c0, if_neg c1, if_pos c2]
        · show some (wrap64 (wrap64 (q / 17592186044416) - 524288), a2, s2) = _
          rw [wrap_id (x := q / 17592186044416) (by omega) (by omega), wrap_id (by omega) (by omega)]
      · obtain ⟨q, a2, s2, e2, h4, h5, q0, q1⟩ := pick_ok l hb a1 s1 9000 (by omega) (by omega)
        have q1 := q1 (by omega)
        refine ⟨q - 3000, a2, s2, Ev.congr (f := fun _ => some (q - 3000, a2, s2)) (fun k => ?_) (Ev.now _), by omega, by omega, by omega, by omega⟩
        unfold spec_l1Cur_day.f
        rw [e1]; simp only [Option.bind_some]
        rw [if_neg c0, if_neg c1, if_neg c2, e2]; simp only [Option.bind_some]
        rw [wrap_id (by omega) (by omega)]

/-! how many free days count hangs on which days are told alone -/
def okDay (lo hi x : Int) : Bool := decide (lo ≤ x ∧ x ≤ hi ∧ (x + 5) % 7 < 5)
/-- The days that count, each once, in the order in which they are first told. -/
def onceL (lo hi : Int) (l : List Int) : Nat → List Int
  | 0 => []
  | j + 1 => if okDay lo hi (rd l j) = true ∧ rd l j ∉ l.take j then onceL lo hi l j ++ [rd l j] else onceL lo hi l j
theorem freeN_len (lo hi : Int) (l : List Int) : ∀ j : Nat, freeN lo hi l j = ((onceL lo hi l j).length : Int)
  | 0 => rfl
  | j + 1 => by
    unfold freeN onceL okDay
    rw [freeN_len lo hi l j]
    by_cases h : lo ≤ rd l j ∧ rd l j ≤ hi ∧ rd l j ∉ l.take j ∧ (rd l j + 5) % 7 < 5
    · rw [if_pos h, if_pos ⟨decide_eq_true ⟨h.1, h.2.1, h.2.2.2⟩, h.2.2.1⟩]; simp
    · rw [if_neg h, if_neg (fun q => h (by have := of_decide_eq_true q.1; exact ⟨this.1, this.2.1, q.2, this.2.2⟩))]; simp
theorem onceL_mem (lo hi : Int) (l : List Int) : ∀ j : Nat, j ≤ l.length → ∀ x, x ∈ onceL lo hi l j ↔ (x ∈ l.take j ∧ okDay lo hi x = true)
  | 0, _, x => by simp [onceL]
  | j + 1, hj, x => by
    have ih := onceL_mem lo hi l j (by omega) x
    rw [take_rd l j (by omega)]
    unfold onceL
    by_cases h : okDay lo hi (rd l j) = true ∧ rd l j ∉ l.take j
    · rw [if_pos h, List.mem_append, List.mem_append, ih]
      simp only [List.mem_singleton]
      constructor
      · rintro (⟨q1, q2⟩ | rfl)
        · exact ⟨Or.inl q1, q2⟩
        · exact ⟨Or.inr rfl, h.1⟩
      · rintro ⟨q1 | rfl, q2⟩
        · exact Or.inl ⟨q1, q2⟩
        · exact Or.inr rfl
    · rw [if_neg h, List.mem_append, ih]
      simp only [List.mem_singleton]
      constructor
      · rintro ⟨q1, q2⟩; exact ⟨Or.inl q1, q2⟩
      · rintro ⟨q1 | rfl, q2⟩
        · exact ⟨q1, q2⟩
        · exact ⟨Classical.byContradiction fun q => h ⟨q2, q⟩, q2⟩
theorem onceL_nodup (lo hi : Int) (l : List Int) : ∀ j : Nat, j ≤ l.length → (onceL lo hi l j).Nodup
  | 0, _ => by simp [onceL]
  | j + 1, hj => by
    have ih := onceL_nodup lo hi l j (by omega)
    unfold onceL
    by_cases h : okDay lo hi (rd l j) = true ∧ rd l j ∉ l.take j
    · rw [if_pos h, List.nodup_append]
      refine ⟨ih, by simp, fun a ha b hb => ?_⟩
      rw [List.mem_singleton] at hb
      subst hb
      intro e; subst e
      exact h.2 ((onceL_mem lo hi l j (by omega) _).1 ha).1
    · rw [if_neg h]; exact ih
theorem nodup_le : ∀ (l1 l2 : List Int), l1.Nodup → (∀ x ∈ l1, x ∈ l2) → l1.length ≤ l2.length
  | [], _, _, _ => Nat.zero_le _
  | a :: l1, l2, h1, h2 => by
    have ha := h2 a (by simp)
    rw [List.nodup_cons] at h1
    have := nodup_le l1 (l2.erase a) h1.2 (fun x hx => (List.mem_erase_of_ne (fun e => h1.1 (by rw [← e]; exact hx))).2 (h2 x (by simp [hx])))
    rw [List.length_erase_of_mem ha] at this
    have : 0 < l2.length := List.length_pos_of_mem ha
    simp only [List.length_cons]; omega
/-- Lists that tell the same days count alike. -/
theorem freeN_same (lo hi : Int) (l l' : List Int) (h : ∀ x, x ∈ l ↔ x ∈ l') : freeN lo hi l l.length = freeN lo hi l' l'.length := by
  rw [freeN_len, freeN_len]
  have m1 := onceL_mem lo hi l l.length (Nat.le_refl _)
  have m2 := onceL_mem lo hi l' l'.length (Nat.le_refl _)
  rw [List.take_length] at m1 m2
  have a1 := nodup_le _ (onceL lo hi l' l'.length) (onceL_nodup lo hi l l.length (Nat.le_refl _)) (fun x hx => (m2 x).2 ⟨(h x).1 ((m1 x).1 hx).1, ((m1 x).1 hx).2⟩)
  have a2 := nodup_le _ (onceL lo hi l l.length) (onceL_nodup lo hi l' l'.length (Nat.le_refl _)) (fun x hx => (m1 x).2 ⟨(h x).2 ((m2 x).1 hx).1, ((m2 x).1 hx).2⟩)
  omega
/-- A stretch parted at a day. -/
theorem freeN_part (lo mid hi : Int) (l : List Int) (h1 : lo ≤ mid) (h2 : mid < hi) : ∀ j : Nat, freeN lo hi l j = freeN lo mid l j + freeN (mid + 1) hi l j
  | 0 => rfl
  | j + 1 => by
    unfold freeN
    rw [freeN_part lo mid hi l h1 h2 j]
    generalize rd l j = x
    by_cases c1 : x ∉ l.take j ∧ (x + 5) % 7 < 5
    · by_cases c2 : lo ≤ x ∧ x ≤ hi
      · rw [if_pos ⟨c2.1, c2.2, c1.1, c1.2⟩]
        by_cases c3 : x ≤ mid
        · rw [if_pos ⟨c2.1, c3, c1.1, c1.2⟩, if_neg (fun q => by omega)]; omega
        · rw [if_neg (fun q => c3 q.2.1), if_pos ⟨by omega, c2.2, c1.1, c1.2⟩]; omega
      · rw [if_neg (fun q => c2 ⟨q.1, q.2.1⟩), if_neg (fun q => c2 ⟨q.1, by omega⟩), if_neg (fun q => c2 ⟨by omega, q.2.1⟩)]; omega
    · rw [if_neg (fun q => c1 ⟨q.2.2.1, q.2.2.2⟩), if_neg (fun q => c1 ⟨q.2.2.1, q.2.2.2⟩), if_neg (fun q => c1 ⟨q.2.2.1, q.2.2.2⟩)]; omega
theorem coreW_part (lo mid hi : Int) (l : List Int) (h1 : lo ≤ mid) (h2 : mid < hi) : coreW lo mid l + coreW (mid + 1) hi l = coreW lo hi l := by
  unfold coreW; rw [freeN_part lo mid hi l h1 h2]; omega
theorem coreW_same (lo hi : Int) (l l' : List Int) (h : ∀ x, x ∈ l ↔ x ∈ l') : coreW lo hi l = coreW lo hi l' := by
  unfold coreW; rw [freeN_same lo hi l l' h]

theorem draw_l0 (l : List Int) (hb : Bytes l) (x y : Int) : ∀ (d : Nat) (fr : List Int) (n a s : Int), n = d → d ≤ 100 → fr.length + d ≤ 100 → (∀ z ∈ fr, (Lit.int .i64 z).wf = true) → 0 ≤ a → a + 2 * d ≤ 4611686018427380000 →
    ∃ r : List Int, Ev (fun k => spec_DrawWorkdays.l0 k x y fr n l a s) (x, y, r) ∧ (∀ z ∈ r, (Lit.int .i64 z).wf = true)
  | 0, fr, n, a, s, hn, hd, hf, hw, ha, h1 => by
    obtain ⟨o, a1, s1, e1, h2, h3⟩ := one_ok l hb a s 60 ha (by omega)
    cases o with
    | false =>
      refine ⟨fr, Ev.step (f := fun _ => some (x, y, fr)) (fun k => ?_) (Ev.now _), hw⟩
      simp only [spec_DrawWorkdays.l0]
      rw [if_neg (by omega), e1]; simp
    | true =>
      obtain ⟨p, a2, s2, e2, h4, h5, p0, p1⟩ := pick_ok l hb a1 s1 3 (by omega) (by omega)
      have p1 := p1 (by omega)
      refine ⟨List.replicate (999 + p).toNat 0, Ev.step (f := fun _ => some (x, y, List.replicate (999 + p).toNat 0)) (fun k => ?_) (Ev.now _), fun z hz => ?_⟩
      · simp only [spec_DrawWorkdays.l0]
        rw [if_neg (by omega), e1]; simp only [Option.bind_some, if_true]
        rw [e2]; simp only [Option.bind_some]
        rw [wrap_id (x := 999 + p) (by omega) (by omega), if_pos (by omega), if_pos (by omega)]
      · rw [(List.mem_replicate.1 hz).2]; decide
  | d + 1, fr, n, a, s, hn, hd, hf, hw, ha, h1 => by
    obtain ⟨p, a1, s1, e1, h2, h3, _⟩ := pick_ok l hb a s 40 ha (by omega)
    obtain ⟨r, e2, hr⟩ := draw_l0 l hb x y d (fr ++ [wrap64 (wrap64 (x + p) - 5)]) (n - 1) a1 s1 (by omega) (by omega) (by rw [List.length_append]; simp; omega)
      (fun z hz => by
        rcases List.mem_append.1 hz with h | h
        · exact hw z h
        · rw [List.mem_singleton.1 h]; exact wf_wrap _) (by omega) (by omega)
    refine ⟨r, Ev.step (f := fun k => spec_DrawWorkdays.l0 k x y (fr ++ [wrap64 (wrap64 (x + p) - 5)]) (n - 1) l a1 s1) (fun k => ?_) e2, hr⟩
    simp only [spec_DrawWorkdays.l0]
    rw [if_pos (by omega), e1]; simp only [Option.bind_some]
    rw [if_pos (by omega), wrap_id (x := n - 1) (by omega) (by omega)]
theorem draw_j0 (l : List Int) (hb : Bytes l) (x y a s : Int) (ha : 0 ≤ a) (h1 : a ≤ 4611686018427370000) : ∃ r : List Int, Ev (fun k => spec_DrawWorkdays.j0 k x y l a s) (x, y, r) ∧ (∀ z ∈ r, (Lit.int .i64 z).wf = true) := by
  obtain ⟨p, a1, s1, e1, h2, h3, p0, p1⟩ := pick_ok l hb a s 8 ha (by omega)
  have p1 := p1 (by omega)
  obtain ⟨r, e2, hr⟩ := draw_l0 l hb x y p.toNat [] p a1 s1 (by omega) (by omega) (by simp; omega) (by simp) (by omega) (by omega)
  refine ⟨r, Ev.step (f := fun k => spec_DrawWorkdays.l0 k x y [] p l a1 s1) (fun k => ?_) e2, hr⟩
  simp only [spec_DrawWorkdays.j0]
  rw [e1]; simp only [Option.bind_some]
theorem draw_ok (l : List Int) (hb : Bytes l) : ∃ (x y : Int) (r : List Int), Ev (fun k => spec_DrawWorkdays.f k l) (x, y, r) ∧ (∀ z ∈ r, (Lit.int .i64 z).wf = true) := by
  obtain ⟨x, a1, s1, e1, h2, h3, x0, x1⟩ := day_ok l hb 0 0 (by omega) (by omega)
  obtain ⟨p, a2, s2, e2, h4, h5, p0, p1⟩ := pick_ok l hb a1 s1 60 (by omega) (by omega)
  have p1 := p1 (by omega)
  obtain ⟨o, a3, s3, e3, h6, h7⟩ := one_ok l hb a2 s2 4 (by omega) (by omega)
  cases o with
  | true =>
    obtain ⟨y, a4, s4, e4, h8, h9, _⟩ := day_ok l hb a3 s3 (by omega) (by omega)
    obtain ⟨r, e5, hr⟩ := draw_j0 l hb x y a4 s4 (by omega) (by omega)
    refine ⟨x, y, r, ?_, hr⟩
    refine Ev.bind e1 (Ev.congr (fun k => ?_) (Ev.bind (f := fun k bt => spec_DrawWorkdays.j0 k x bt.1 l bt.2.1 bt.2.2) e4 e5))
    show ((spec_l1Cur_pick.f l a1 s1 60).bind _) = _
    rw [e2]; simp only [Option.bind_some]
    rw [e3]; simp only [Option.bind_some, if_true]
  | false =>
    obtain ⟨r, e5, hr⟩ := draw_j0 l hb x (wrap64 (wrap64 (x + p) - 10)) a3 s3 (by omega) (by omega)
    refine ⟨x, wrap64 (wrap64 (x + p) - 10), r, ?_, hr⟩
    refine Ev.bind e1 (Ev.congr (fun k => ?_) e5)
    show ((spec_l1Cur_pick.f l a1 s1 60).bind _) = _
    rw [e2]; simp only [Option.bind_some]
    rw [e3]; simp
theorem isDay_of (d : Int) : impl_isDay.f d = some (dayB d) := by
  unfold impl_isDay.f dayB
  by_cases h : d ≥ -1000000
  · rw [if_pos h]; congr 1; rw [decide_eq_decide]; omega
  · rw [if_neg h]; congr 1; symm; rw [decide_eq_false_iff_not]; omega
theorem weekday_of (d : Int) : ∃ v, impl_Weekday.f d = some v ∧ (¬ v < 0 → dayB d = true) := by
  unfold impl_Weekday.f
  rw [isDay_of]
  cases hd : dayB d with
  | false => exact ⟨-1, by simp, fun h => absurd (by omega) h⟩
  | true =>
    have hb : -1000000 ≤ d ∧ d ≤ 1000000 := of_decide_eq_true hd
    simp only [Option.bind_some, if_true]
    rw [wrap_id (x := d + 5) (by omega) (by omega)]
    unfold impl_floorMod_int.f
    have e : impl_floorDiv_int.f (d + 5) 7 = some ((d + 5) / 7) := by unfold impl_floorDiv_int.f; exact floor_is (by omega) (by omega) (by omega)
    rw [e]
    exact ⟨_, rfl, fun _ => trivial⟩
theorem work_is (a b : Int) (l : List Int) (hw : ∀ x ∈ l, (Lit.int .i64 x).wf = true) (k : Nat) : impl_Workdays.f k a b l = some (implWorkV a b l) := by
  unfold impl_Workdays.f; rw [if_pos hw]
theorem work_back (a b : Int) (l : List Int) (h : a ≠ b) : implWorkV b a l = -implWorkV a b l := by
  unfold implWorkV
  cases dayB a <;> cases dayB b <;> cases decide (l.length ≤ 1000) <;> simp
  by_cases h1 : b < a
  · rw [if_pos h1, if_neg (by omega)]; omega
  · rw [if_neg h1, if_pos (by omega)]
theorem work_rng (a b : Int) (l : List Int) : -3000000 ≤ implWorkV a b l ∧ implWorkV a b l ≤ 3000000 := by
  unfold implWorkV
  by_cases h : (dayB a && dayB b && decide (l.length ≤ 1000)) = true
  · rw [if_pos h]
    simp only [Bool.and_eq_true, decide_eq_true_eq] at h
    have ha := dayB_iff.1 h.1.1; have hb := dayB_iff.1 h.1.2
    by_cases h1 : b < a
    · rw [if_pos h1]; have := coreW_le b a l (by omega) (by omega) h.2; omega
    · rw [if_neg h1]; have := coreW_le a b l (by omega) (by omega) h.2; omega
  · rw [if_neg h]; omega
/-- The free days told twice. -/
def twiceL (l : List Int) : Nat → List Int
  | 0 => []
  | j + 1 => twiceL l j ++ [rd l ((l.length : Int) - 1 - j), rd l j]
theorem twice_len (l : List Int) : ∀ j, (twiceL l j).length = 2 * j
  | 0 => rfl
  | j + 1 => by unfold twiceL; rw [List.length_append, twice_len l j]; simp; omega
theorem rd_mem (l : List Int) (i : Int) (h0 : 0 ≤ i) (h1 : i < l.length) : rd l i ∈ l := by
  have hlt : i.toNat < l.length := by omega
  have e : rd l i = l[i.toNat] := by unfold rd; rw [List.getD_eq_getElem?_getD, List.getElem?_eq_getElem hlt]; rfl
  rw [e]; exact List.getElem_mem hlt
theorem twice_sub (l : List Int) : ∀ j, j ≤ l.length → ∀ x ∈ twiceL l j, x ∈ l
  | 0, _, x, hx => by simp [twiceL] at hx
  | j + 1, hj, x, hx => by
    unfold twiceL at hx
    rcases List.mem_append.1 hx with h | h
    · exact twice_sub l j (by omega) x h
    · simp only [List.mem_cons, List.not_mem_nil, or_false] at h
      rcases h with rfl | rfl
      · exact rd_mem l _ (by omega) (by omega)
      · exact rd_mem l _ (by omega) (by omega)
theorem twice_sup (l : List Int) : ∀ j, j ≤ l.length → ∀ x ∈ l.take j, x ∈ twiceL l j
  | 0, _, x, hx => by simp at hx
  | j + 1, hj, x, hx => by
    rw [take_rd l j (by omega)] at hx
    unfold twiceL
    rcases List.mem_append.1 hx with h | h
    · exact List.mem_append_left _ (twice_sup l j (by omega) x h)
    · rw [List.mem_singleton.1 h]; exact List.mem_append_right _ (by simp)
theorem twice_same (l : List Int) : ∀ x, x ∈ twiceL l l.length ↔ x ∈ l := fun x =>
  ⟨twice_sub l l.length (Nat.le_refl _) x, fun h => twice_sup l l.length (Nat.le_refl _) x (by rw [List.take_length]; exact h)⟩
theorem work_twice (a b : Int) (l : List Int) (hl : l.length ≤ 400) : implWorkV a b (twiceL l l.length) = implWorkV a b l := by
  unfold implWorkV
  rw [coreW_same b a _ l (twice_same l), coreW_same a b _ l (twice_same l), twice_len, decide_eq_true (by omega : 2 * l.length ≤ 1000), decide_eq_true (by omega : l.length ≤ 1000)]
theorem work_part (a b m : Int) (l : List Int) (hl : l.length ≤ 400) (ha : dayB a = true) (hb : dayB b = true) (h1 : a ≤ m) (h2 : m < b) : implWorkV a m l + implWorkV (m + 1) b l = implWorkV a b l := by
  have ha' := dayB_iff.1 ha; have hb' := dayB_iff.1 hb
  have hm : dayB m = true := dayB_iff.2 (by omega)
  have hm1 : dayB (m + 1) = true := dayB_iff.2 (by omega)
  unfold implWorkV
  rw [ha, hb, hm, hm1, decide_eq_true (by omega : l.length ≤ 1000)]
  simp only [Bool.and_self, if_true]
  rw [if_neg (by omega), if_neg (by omega), if_neg (by omega)]
  exact coreW_part a m b l h1 h2
theorem law_l0 (c : List Int) (hc : c.length ≤ 1048576) (a b : Int) (l : List Int) (hl : l.length ≤ 400) (hw : ∀ x ∈ l, (Lit.int .i64 x).wf = true) (ha : dayB a = true) (hb : dayB b = true) :
    ∀ (d i : Nat), i + d = l.length → Ev (fun k => laws_FnWorkdays.l0 k c a b l (implWorkV a b l) (twiceL l i) (l.length : Int) (i : Int)) true
  | 0, i, hi => by
    obtain rfl : i = l.length := by omega
    have ha' := dayB_iff.1 ha; have hb' := dayB_iff.1 hb
    have hw2 : ∀ x ∈ twiceL l l.length, (Lit.int .i64 x).wf = true := fun x hx => hw x ((twice_same l x).1 hx)
    refine Ev.step (f := fun _ => some true) (fun k => ?_) (Ev.now _)
    simp only [laws_FnWorkdays.l0]
    rw [if_neg (by omega), work_is a b _ hw2]; simp only [Option.bind_some]
    rw [work_twice a b l hl, if_pos rfl]
    by_cases hab : b ≤ a
    · rw [if_pos hab]
    · rw [if_neg hab, wrap_id (x := b - a) (by omega) (by omega), wrapu_id (x := b - a) (by omega) (by omega), if_neg (by omega)]
      have hr := wrapu_rng (IntKind.u64.wrap (c.length : Int) * 37)
      generalize IntKind.u64.wrap (IntKind.u64.wrap (c.length : Int) * 37) = X at hr
      have hm : 0 ≤ Int.tmod X (b - a) ∧ Int.tmod X (b - a) < b - a := by
        rw [tm_pos hr.1]; exact ⟨Int.emod_nonneg _ (by omega), Int.emod_lt_of_pos _ (by omega)⟩
      generalize Int.tmod X (b - a) = Y at hm
      rw [wrap_id (x := Y) (by omega) (by omega), wrap_id (x := a + Y) (by omega) (by omega), wrap_id (x := a + Y + 1) (by omega) (by omega)]
      rw [work_is _ _ _ hw, work_is _ _ _ hw]; simp only [Option.bind_some]
      have hp := work_part a b (a + Y) l hl ha hb (by omega) (by omega)
      have h3 := work_rng a b l
      rw [hp, wrap_id (by omega) (by omega)]; simp
  | d + 1, i, hi => by
    have ih := law_l0 c hc a b l hl hw ha hb d (i + 1) (by omega)
    refine Ev.step (fun k => ?_) ih
    simp only [laws_FnWorkdays.l0]
    rw [if_pos (by omega), wrap_id (x := (l.length : Int) - 1) (by omega) (by omega), wrap_id (x := (l.length : Int) - 1 - i) (by omega) (by omega), if_pos (by omega), if_pos (by omega), if_pos (by omega), if_pos (by omega)]
    simp only [Option.bind_some]
    rw [if_pos (by rw [twice_len]; simp; omega), wrap_id (x := (i : Int) + 1) (by omega) (by omega)]
    rfl
theorem FnWorkdays : ∀ (l0 : (List Int)) (l1 : (List Int)), QL (QI .u8) l0 → QL (QI .u8) l1 → ∃ k, laws_FnWorkdays.f k l0 l1 = some true := by
  intro l c hb0 _
  refine Ev.rounds ?_
  unfold laws_FnWorkdays.f
  have hb := bytes_of (fun x hx => hb0.2 x hx)
  by_cases h : (l.length : Int) > 1048576
  · refine Ev.congr (fun k => by rw [if_pos h]) (Ev.step (f := fun _ => some true) (fun k => ?_) (Ev.now _))
    simp only [laws_FnWorkdays.j0]; rfl
  · refine Ev.congr (fun k => by rw [if_neg h]) ?_
    by_cases h2 : (c.length : Int) > 1048576
    · refine Ev.step (f := fun _ => some true) (fun k => ?_) (Ev.now _)
      simp only [laws_FnWorkdays.j0]; rw [if_pos (decide_eq_true h2)]
    · obtain ⟨a, b, r, e1, hr⟩ := draw_ok l hb
      refine Ev.step (fun k => by simp only [laws_FnWorkdays.j0]; rw [if_neg (by simpa using h2)]) (Ev.bind e1 ?_)
      have hn := work_rng a b r
      have key : ∀ x49, x49 = false → Ev (fun k => laws_FnWorkdays.j1 k c a b r (implWorkV a b r) x49) true := by
        rintro _ rfl
        obtain ⟨v, ev, hv⟩ := weekday_of a
        obtain ⟨u, eu, hu⟩ := weekday_of b
        have out : Ev (fun k => laws_FnWorkdays.j2 k c a b r (implWorkV a b r) true) true :=
          Ev.step (f := fun _ => some true) (fun k => by simp only [laws_FnWorkdays.j2]; rfl) (Ev.now _)
        by_cases c1 : v < 0
        · exact Ev.step (fun k => by simp only [laws_FnWorkdays.j1]; rw [if_neg (by simp), ev]; simp only [Option.bind_some]; rw [if_pos c1]) out
        · by_cases c2 : u < 0
          · exact Ev.step (fun k => by simp only [laws_FnWorkdays.j1]; rw [if_neg (by simp), ev]; simp only [Option.bind_some]; rw [if_neg c1, eu]; simp only [Option.bind_some]; rw [if_pos c2]) out
          · by_cases c3 : (r.length : Int) > 400
            · exact Ev.step (fun k => by simp only [laws_FnWorkdays.j1]; rw [if_neg (by simp), ev]; simp only [Option.bind_some]; rw [if_neg c1, eu]; simp only [Option.bind_some]; rw [if_neg c2, decide_eq_true c3]) out
            · refine Ev.step (f := fun k => laws_FnWorkdays.j2 k c a b r (implWorkV a b r) false) (fun k => by simp only [laws_FnWorkdays.j1]; rw [if_neg (by simp), ev]; simp only [Option.bind_some]; rw [if_neg c1, eu]; simp only [Option.bind_some]; rw [if_neg c2, decide_eq_false c3]) (Ev.step (f := fun k => laws_FnWorkdays.l0 k c a b r (implWorkV a b r) [] (r.length : Int) 0) (fun k => by simp only [laws_FnWorkdays.j2]; rw [if_neg (by simp)]) ?_)
              exact law_l0 c (by omega) a b r (by omega) hr (hv c1) (hu c2) r.length 0 (by omega)
      refine Ev.congr (fun k => ?_) (key false rfl)
      show ((impl_Workdays.f k a b r).bind _) = _
      rw [work_is _ _ _ hr]; simp only [Option.bind_some]
      rw [show spec_Workdays.f a b r = some (implWorkV a b r) from rfl]; simp only [Option.bind_some, if_true]
      rw [work_is _ _ _ hr]; simp only [Option.bind_some]
      by_cases hab : a = b
      · subst hab
        have : (a != a) = false := by simp
        rw [this]; split <;> rfl
      · rw [work_back a b r hab, wrap_id (by omega) (by omega), if_pos rfl]

end Go.Proofs.Ytojfkjggpdlngaa.Pure
