/- GoodValue: the walk of the law. -/
import Derived.Test.YtmpimcfmhpfkaaaDoorDaFnExactGoodValue
namespace Go.Proofs.YtmpimcfmhpfkaaaDoor.PFnExactGoodValue
open Go.RowKit Go.Proofs.YtmpimcfmhpfkaaaDoorW.PrintWords Go.Proofs.YtmpimcfmhpfkaaaDoorW.PrintLast Go.Proofs.YtmpimcfmhpfkaaaDoorW.PrintMore
set_option linter.unusedVariables false
set_option linter.unusedSimpArgs false
set_option maxHeartbeats 4000000 in
theorem law_calls (k : Int) (n : Bool) (d x : Int) (t : ByteArray) (w : World) (_ : (Lit.int .i64 k).wf = true) (_ : (Lit.int .i64 d).wf = true) (_ : (Lit.int .i64 x).wf = true) (hmax : t.size ≤ maxLen) (hT : Tab w) :
    Calls Tryd.prog 3 #[.agg #[.int .i64 k, .bool n, .int .i64 d, .int .i64 x, .string t]] w fun e w' => e = .returned (.bool true) ∧ Below w.heap.size w w' := by
  have hml : maxLen ≤ 9223372036854775807 := by decide
  have hb0 : Below w.heap.size w (w.alloc (.cells #[.int .i64 k, .bool n, .int .i64 d, .int .i64 x, .string t] 25)) := below_alloc (Below.refl _ _) _
  by_cases ht : t.size ≤ 1048576
  · have hsz : laws_szValue.f k n d x t 1048576 = some (1048576 - (t.size : Int)) := by
      unfold laws_szValue.f; rw [wrap_id (x := 1048576 - (t.size : Int)) (by omega) (by omega), if_neg (by omega)]
    have hs : spec_GoodValue.f 1048590 k n d x t = some (goodValB k n d x t) := specGoodValue_is k n d x t ht _ (by omega)
    have htv : laws_toValue.f k n d x t = some (k, n, d, x, t) := rfl
    have hcall := fun w' (h : Tab w') => GoodValue_calls k n d x t ht w' h
    generalize goodValB k n d x t = B at *
    have hlt : (decide ((1048576 - (t.size : Int)) < 0)) = false := decide_eq_false (by omega)
    generalize (1048576 - (t.size : Int)) = S at *
    have HSZ := Lib.hid hsz; have HS := Lib.hid hs; have HTV := Lib.hid htv; have HC := Lib.hid hcall; have HT := Lib.hid (hT.below hb0); have HB := Lib.hid hb0
    clear hsz hs htv hcall hT hb0 ht hmax hml
    go_enter Tryd.func3, Tryd.ntmps3
    go_wp2_with fail
    refine (laws_szValue.calls _ _ _ _ _ _ _ _ HSZ.out).mono ?_; rintro e w2 ⟨rfl, hd⟩; have HD := Lib.hid hd; obtain ⟨hc, hf⟩ := bcell hd; clear hd
    go_wp2_with fail
    refine (laws_toValue.calls _ _ _ _ _ _ _ _ _ _ _ HTV.out).mono ?_; rintro e w3 ⟨rfl, hd⟩; have HD3 := Lib.hid (below_step HD.out hd); obtain ⟨hc3, hf3⟩ := bcell (below_step HD.out hd); clear hd hc hf
    go_wp2_with fail
    refine (spec_GoodValue.calls _ _ _ _ _ _ _ _ HS.out).mono ?_; rintro e w4 ⟨rfl, hd⟩; have HD4 := Lib.hid (below_step HD3.out hd); obtain ⟨hc4, hf4⟩ := bcell (below_step HD3.out hd); clear hd hc3 hf3
    go_wp2_with fail
    refine (laws_toValue.calls _ _ _ _ _ _ _ _ _ _ _ HTV.out).mono ?_; rintro e w5 ⟨rfl, hd⟩; have HD5 := Lib.hid (below_step HD4.out hd); clear hd hc4 hf4
    go_wp2_with fail
    refine (HC.out _ (HT.out.below HD5.out)).mono ?_; rintro e w6 ⟨rfl, hd⟩; have HD6 := Lib.hid (below_step HD5.out hd); clear hd
    cases B
    all_goals
      go_wp2_with fail
      go_ret
      exact ⟨rfl, below_step HB.out HD6.out⟩
  · have hsz : laws_szValue.f k n d x t 1048576 = some (-1) := by
      unfold laws_szValue.f; rw [wrap_id (x := 1048576 - (t.size : Int)) (by omega) (by omega), if_pos (by omega)]
    have HSZ := Lib.hid hsz; have HB := Lib.hid hb0
    clear hsz hT hb0 ht hmax hml
    go_enter Tryd.func3, Tryd.ntmps3
    go_wp2_with fail
    refine (laws_szValue.calls _ _ _ _ _ _ _ _ HSZ.out).mono ?_; rintro e w2 ⟨rfl, hd⟩; have HD := Lib.hid hd; clear hd
    go_wp2_with fail
    go_ret
    exact ⟨rfl, below_step HB.out HD.out⟩
end Go.Proofs.YtmpimcfmhpfkaaaDoor.PFnExactGoodValue
