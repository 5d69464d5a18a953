/- Functions of the program as Lean functions, and proofs that the Go code comes to their answers: for the law FnExactUsedNames; made out of the print by a program of mine (compact.py). No conditions but each theorem's own. -/
import Derived.Test.YtegdpgpbdcediaaGreatDoorMFnExactUsedNamesa0
import Derived.Test.YtegdpgpbdcediaaGreatDoorMFnExactUsedNamesa2
import Derived.Test.YtegdpgpbdcediaaGreatDoorMFnExactUsedNamesa7
import Derived.Test.YtegdpgpbdcediaaGreatDoorMFnExactUsedNamesa9
import Derived.Test.YtegdpgpbdcediaaGreatDoorMFnExactUsedNamesa10
import Derived.Test.YtegdpgpbdcediaaGreatDoorMFnExactUsedNamesa12
import Derived.Test.YtegdpgpbdcediaaGreatDoorMFnExactUsedNamesa13
namespace Go.Proofs.YtegdpgpbdcediaaGreatDoor.PFnExactUsedNames
open List (map_toArray map_cons map_nil length_drop length_take set_cons_zero set_cons_succ setIfInBounds_toArray)
open Go.RowKit Go.Proofs.YtegdpgpbdcediaaGreatDoorW.PrintWords Go.Proofs.YtegdpgpbdcediaaGreatDoorW.PrintLast Go.Proofs.YtegdpgpbdcediaaGreatDoorW.PrintMore
attribute [local go_sem] max2_int min2_int max_two min_two max_three min_three max_four min_four   -- for this text's walks alone
set_option linter.unusedVariables false
set_option linter.unusedSimpArgs false

attribute [local go_sem high] eqA47 eqA65
attribute [local go_sem high] eqANode
set_option maxHeartbeats 16000000 in
set_option maxRecDepth 100000 in
theorem gn_11 (k:Int) (t:ByteArray) (n:Bool) (d x r c:Int) (p q:Bool) (r2 c2:Int) (p2 q2:Bool) (m:Int) (w:World) (hT:Tab w) (nm:Bool) (R:Bool) (hR:nodeB nm ((atoiV t).2.isNone && arB (atoiV t).1 t m) k t n d x r c p q r2 c2 p2 q2 m=R) (hN:k=7∨k=11→impl_isName.f NK t=some nm) (ht:t.size≤1048576) (hk:k=11):
  Calls Tryz.prog 74 #[.agg #[.int .i64 k,.string t,.bool n,.int .i64 d,.int .i64 x,.int .i64 r,.int .i64 c,.bool p,.bool q,.int .i64 r2,.int .i64 c2,.bool p2,.bool q2,.int .i64 m]] w fun e w'=>e= .returned (.bool R)∧Below w.heap.size w w':=by
 have HR:=Lib.hid hR;clear hR
 have HN:=Lib.hid hN;have HT:=Lib.hid hT;have HZ:=Lib.hid ht;clear hN hT ht
 subst hk
 go_enter Tryz.func74,Tryz.ntmps74
 go_upto_region 4 with fail
 by_cases hm0:decide (0≤m)=true
 ·skip
  by_cases hm1:decide (m≤30)=true
  ·skip
   have HG:=Lib.hid (HN.out (by first|trivial|decide|simp))
   by_cases hn:nm=true
   ·skip
    have HU:=Lib.hid (show impl_capitals.f t=some (upS t)by unfold impl_capitals.f;rw [if_pos HZ.out])
    by_cases hu:((upS t).toList==t.toList)=true
    ·skip
     obtain rfl:R=((!n && (d==0 && x==0)) && ((r==0 && (c==0 && (!p && !q))) && (r2==0 && (c2==0 && (!p2 && !q2))))):=by rw [←HR.out];simp only [nodeB_11,hm0,hm1,hn,hu,Bool.and_false,Bool.false_and,Bool.true_and,Bool.and_true,Bool.not_true,Bool.not_false,Bool.or_true,Bool.true_or,Bool.false_or,Bool.or_false];try rfl
     subst hn
     go_wp2_with fail
     have HB0:=Lib.hid (Below.refl ((w.alloc (.cells #[.int .i64 11,.string t,.bool n,.int .i64 d,.int .i64 x,.int .i64 r,.int .i64 c,.bool p,.bool q,.int .i64 r2,.int .i64 c2,.bool p2,.bool q2,.int .i64 m] 67)).alloc (.cells #[.int .i64 11,.string t,.bool false,.int .i64 0,.int .i64 0,.int .i64 0,.int .i64 0,.bool false,.bool false,.int .i64 0,.int .i64 0,.bool false,.bool false,.int .i64 m] 67)).heap.size ((w.alloc (.cells #[.int .i64 11,.string t,.bool n,.int .i64 d,.int .i64 x,.int .i64 r,.int .i64 c,.bool p,.bool q,.int .i64 r2,.int .i64 c2,.bool p2,.bool q2,.int .i64 m] 67)).alloc (.cells #[.int .i64 11,.string t,.bool false,.int .i64 0,.int .i64 0,.int .i64 0,.int .i64 0,.bool false,.bool false,.int .i64 0,.int .i64 0,.bool false,.bool false,.int .i64 m] 67)))
     have HB1:Hid (Below w.heap.size w ((w.alloc (.cells #[.int .i64 11,.string t,.bool n,.int .i64 d,.int .i64 x,.int .i64 r,.int .i64 c,.bool p,.bool q,.int .i64 r2,.int .i64 c2,.bool p2,.bool q2,.int .i64 m] 67)).alloc (.cells #[.int .i64 11,.string t,.bool false,.int .i64 0,.int .i64 0,.int .i64 0,.int .i64 0,.bool false,.bool false,.int .i64 0,.int .i64 0,.bool false,.bool false,.int .i64 m] 67))):=Lib.hid (z2q (z2q (Below.refl _ _) _) _)
     first|go_region_held3 (fun w'=>w'.cell? ⟨w.heap.size,1,none⟩=some (.string t)∧w'.cell? ⟨w.heap.size,13,none⟩=some (.int .i64 m)∧Below ((w.alloc (.cells #[.int .i64 11,.string t,.bool n,.int .i64 d,.int .i64 x,.int .i64 r,.int .i64 c,.bool p,.bool q,.int .i64 r2,.int .i64 c2,.bool p2,.bool q2,.int .i64 m] 67)).alloc (.cells #[.int .i64 11,.string t,.bool false,.int .i64 0,.int .i64 0,.int .i64 0,.int .i64 0,.bool false,.bool false,.int .i64 0,.int .i64 0,.bool false,.bool false,.int .i64 m] 67)).heap.size ((w.alloc (.cells #[.int .i64 11,.string t,.bool n,.int .i64 d,.int .i64 x,.int .i64 r,.int .i64 c,.bool p,.bool q,.int .i64 r2,.int .i64 c2,.bool p2,.bool q2,.int .i64 m] 67)).alloc (.cells #[.int .i64 11,.string t,.bool false,.int .i64 0,.int .i64 0,.int .i64 0,.int .i64 0,.bool false,.bool false,.int .i64 0,.int .i64 0,.bool false,.bool false,.int .i64 m] 67)) w'∧Below w.heap.size w w')
       (first|(go_split_ands;refine⟨?_,?_,?_,?_⟩<;>first|assumption|exact z9q hb (by assumption)|exact z5q (by assumption) hb|exact z4q (by assumption)|exact HB0.out|exact HB1.out|exact z4q HB0.out|exact z4q HB1.out|(simp [go_sem];done)))
       (first|(go_at_call 98;refine(impl_isName.calls _ _ _ _ (HT.out.below (by first|assumption|(go_split_ands;assumption))) HG.out).mono ?_;rintro e w3 ⟨rfl,hb⟩)|(go_at_call 41;refine(impl_capitals.calls _ _ _ HU.out).mono ?_;rintro e w4 ⟨rfl,hb⟩))|fail
     all_goals go_split_ands
     all_goals (rename_i hs1 hs2 hs3 hs4;obtain⟨hcw,hfw⟩:=bcell hs3;have hzw:=hs3.size)
     all_goals go_wp2_with fail
     all_goals go_ret
     all_goals exact⟨by first|rfl|(simp;done),by first|assumption|exact z4q (by assumption)⟩
    ·replace hu:=Bool.eq_false_iff.mpr hu
     obtain rfl:R=false:=by rw [←HR.out];simp only [nodeB_11,hm0,hm1,hn,hu,Bool.and_false,Bool.false_and,Bool.true_and,Bool.and_true,Bool.not_true,Bool.not_false,Bool.or_true,Bool.true_or,Bool.false_or,Bool.or_false];try rfl
     subst hn
     go_wp2_with fail
     have HB0:=Lib.hid (Below.refl ((w.alloc (.cells #[.int .i64 11,.string t,.bool n,.int .i64 d,.int .i64 x,.int .i64 r,.int .i64 c,.bool p,.bool q,.int .i64 r2,.int .i64 c2,.bool p2,.bool q2,.int .i64 m] 67)).alloc (.cells #[.int .i64 11,.string t,.bool false,.int .i64 0,.int .i64 0,.int .i64 0,.int .i64 0,.bool false,.bool false,.int .i64 0,.int .i64 0,.bool false,.bool false,.int .i64 m] 67)).heap.size ((w.alloc (.cells #[.int .i64 11,.string t,.bool n,.int .i64 d,.int .i64 x,.int .i64 r,.int .i64 c,.bool p,.bool q,.int .i64 r2,.int .i64 c2,.bool p2,.bool q2,.int .i64 m] 67)).alloc (.cells #[.int .i64 11,.string t,.bool false,.int .i64 0,.int .i64 0,.int .i64 0,.int .i64 0,.bool false,.bool false,.int .i64 0,.int .i64 0,.bool false,.bool false,.int .i64 m] 67)))
     have HB1:Hid (Below w.heap.size w ((w.alloc (.cells #[.int .i64 11,.string t,.bool n,.int .i64 d,.int .i64 x,.int .i64 r,.int .i64 c,.bool p,.bool q,.int .i64 r2,.int .i64 c2,.bool p2,.bool q2,.int .i64 m] 67)).alloc (.cells #[.int .i64 11,.string t,.bool false,.int .i64 0,.int .i64 0,.int .i64 0,.int .i64 0,.bool false,.bool false,.int .i64 0,.int .i64 0,.bool false,.bool false,.int .i64 m] 67))):=Lib.hid (z2q (z2q (Below.refl _ _) _) _)
     first|go_region_held3 (fun w'=>w'.cell? ⟨w.heap.size,1,none⟩=some (.string t)∧w'.cell? ⟨w.heap.size,13,none⟩=some (.int .i64 m)∧Below ((w.alloc (.cells #[.int .i64 11,.string t,.bool n,.int .i64 d,.int .i64 x,.int .i64 r,.int .i64 c,.bool p,.bool q,.int .i64 r2,.int .i64 c2,.bool p2,.bool q2,.int .i64 m] 67)).alloc (.cells #[.int .i64 11,.string t,.bool false,.int .i64 0,.int .i64 0,.int .i64 0,.int .i64 0,.bool false,.bool false,.int .i64 0,.int .i64 0,.bool false,.bool false,.int .i64 m] 67)).heap.size ((w.alloc (.cells #[.int .i64 11,.string t,.bool n,.int .i64 d,.int .i64 x,.int .i64 r,.int .i64 c,.bool p,.bool q,.int .i64 r2,.int .i64 c2,.bool p2,.bool q2,.int .i64 m] 67)).alloc (.cells #[.int .i64 11,.string t,.bool false,.int .i64 0,.int .i64 0,.int .i64 0,.int .i64 0,.bool false,.bool false,.int .i64 0,.int .i64 0,.bool false,.bool false,.int .i64 m] 67)) w'∧Below w.heap.size w w')
       (first|(go_split_ands;refine⟨?_,?_,?_,?_⟩<;>first|assumption|exact z9q hb (by assumption)|exact z5q (by assumption) hb|exact z4q (by assumption)|exact HB0.out|exact HB1.out|exact z4q HB0.out|exact z4q HB1.out|(simp [go_sem];done)))
       (first|(go_at_call 98;refine(impl_isName.calls _ _ _ _ (HT.out.below (by first|assumption|(go_split_ands;assumption))) HG.out).mono ?_;rintro e w3 ⟨rfl,hb⟩)|(go_at_call 41;refine(impl_capitals.calls _ _ _ HU.out).mono ?_;rintro e w4 ⟨rfl,hb⟩))|fail
     all_goals go_split_ands
     all_goals go_wp2_with fail
     all_goals go_ret
     all_goals exact⟨by first|rfl|(simp;done),by first|assumption|exact z4q (by assumption)⟩
   ·replace hn:=Bool.eq_false_iff.mpr hn
    obtain rfl:R=false:=by rw [←HR.out];simp only [nodeB_11,hm0,hm1,hn,Bool.and_false,Bool.false_and,Bool.true_and,Bool.and_true,Bool.not_true,Bool.not_false,Bool.or_true,Bool.true_or,Bool.false_or,Bool.or_false];try rfl
    subst hn
    go_wp2_with fail
    have HB0:=Lib.hid (Below.refl ((w.alloc (.cells #[.int .i64 11,.string t,.bool n,.int .i64 d,.int .i64 x,.int .i64 r,.int .i64 c,.bool p,.bool q,.int .i64 r2,.int .i64 c2,.bool p2,.bool q2,.int .i64 m] 67)).alloc (.cells #[.int .i64 11,.string t,.bool false,.int .i64 0,.int .i64 0,.int .i64 0,.int .i64 0,.bool false,.bool false,.int .i64 0,.int .i64 0,.bool false,.bool false,.int .i64 m] 67)).heap.size ((w.alloc (.cells #[.int .i64 11,.string t,.bool n,.int .i64 d,.int .i64 x,.int .i64 r,.int .i64 c,.bool p,.bool q,.int .i64 r2,.int .i64 c2,.bool p2,.bool q2,.int .i64 m] 67)).alloc (.cells #[.int .i64 11,.string t,.bool false,.int .i64 0,.int .i64 0,.int .i64 0,.int .i64 0,.bool false,.bool false,.int .i64 0,.int .i64 0,.bool false,.bool false,.int .i64 m] 67)))
    have HB1:Hid (Below w.heap.size w ((w.alloc (.cells #[.int .i64 11,.string t,.bool n,.int .i64 d,.int .i64 x,.int .i64 r,.int .i64 c,.bool p,.bool q,.int .i64 r2,.int .i64 c2,.bool p2,.bool q2,.int .i64 m] 67)).alloc (.cells #[.int .i64 11,.string t,.bool false,.int .i64 0,.int .i64 0,.int .i64 0,.int .i64 0,.bool false,.bool false,.int .i64 0,.int .i64 0,.bool false,.bool false,.int .i64 m] 67))):=Lib.hid (z2q (z2q (Below.refl _ _) _) _)
    refine wp_region_held_drew (S:=(fun w'=>w'.cell? ⟨w.heap.size,1,none⟩=some (.string t)∧w'.cell? ⟨w.heap.size,13,none⟩=some (.int .i64 m)∧Below ((w.alloc (.cells #[.int .i64 11,.string t,.bool n,.int .i64 d,.int .i64 x,.int .i64 r,.int .i64 c,.bool p,.bool q,.int .i64 r2,.int .i64 c2,.bool p2,.bool q2,.int .i64 m] 67)).alloc (.cells #[.int .i64 11,.string t,.bool false,.int .i64 0,.int .i64 0,.int .i64 0,.int .i64 0,.bool false,.bool false,.int .i64 0,.int .i64 0,.bool false,.bool false,.int .i64 m] 67)).heap.size ((w.alloc (.cells #[.int .i64 11,.string t,.bool n,.int .i64 d,.int .i64 x,.int .i64 r,.int .i64 c,.bool p,.bool q,.int .i64 r2,.int .i64 c2,.bool p2,.bool q2,.int .i64 m] 67)).alloc (.cells #[.int .i64 11,.string t,.bool false,.int .i64 0,.int .i64 0,.int .i64 0,.int .i64 0,.bool false,.bool false,.int .i64 0,.int .i64 0,.bool false,.bool false,.int .i64 m] 67)) w'∧Below w.heap.size w w')) (by kernel_rfl) ?_ (fun hHeld=> ?_)
    ·try dsimp only
     (first|(go_split_ands;refine⟨?_,?_,?_,?_⟩<;>first|assumption|exact z9q hb (by assumption)|exact z5q (by assumption) hb|exact z4q (by assumption)|exact HB0.out|exact HB1.out|exact z4q HB0.out|exact z4q HB1.out|(simp [go_sem];done)))
    simp only [List.size_toArray,List.length_cons,List.length_nil,Nat.reduceAdd,Array.replicate_succ,Array.replicate_zero,List.push_toArray,List.append_toArray,List.nil_append,List.cons_append]
    refine tkV 0 ?_;refine tkV 1 ?_;refine tkV 2 ?_;refine tkV 3 ?_;refine tkV 4 ?_;refine tkV 5 ?_;refine tkV 6 ?_;refine tkV 7 ?_;refine tkV 8 ?_;refine tkV 9 ?_;refine tkV 10 ?_
    refine wpAnyH_ready (rs:= [11]) (by kernel_rfl) (by simp) ?_
    refine AllReadyH.cons rfl (fun K hK=> ?_) AllReadyH.nil
    go_simp
    (go_at_call 98;refine(impl_isName.calls _ _ _ _ (HT.out.below (by first|assumption|(go_split_ands;assumption))) HG.out).mono ?_;rintro e w3 ⟨rfl,hb⟩)
    try go_wp2_with fail
    refine hK.out _ _ ?_ (fun hHeld=> ?_)
    ·try dsimp only
     (first|(go_split_ands;refine⟨?_,?_,?_,?_⟩<;>first|assumption|exact z9q hb (by assumption)|exact z5q (by assumption) hb|exact z4q (by assumption)|exact HB0.out|exact HB1.out|exact z4q HB0.out|exact z4q HB1.out|(simp [go_sem];done)))
    clear hK K
    try simp only [Act.put,setIfInBounds_toArray,set_cons_zero,set_cons_succ]
    refine tkV 12 ?_;refine tkV 13 ?_
    refine tkS 14 ?_;refine tkS 15 ?_;refine tkS 16 ?_;refine tkS 17 ?_;refine tkS 18 ?_;refine tkS 19 ?_
    refine tkV 20 ?_;refine tkV 21 ?_
    refine wpAnyH_done (by kernel_rfl) ?_ _
    obtain⟨hs1,hs2,hs3,hs4⟩:=hHeld
    go_wp2_with fail
    go_ret
    exact⟨by first|rfl|(simp;done),by first|assumption|exact z4q (by assumption)⟩
  ·replace hm1:=Bool.eq_false_iff.mpr hm1
   obtain rfl:R=false:=by rw [←HR.out];simp only [nodeB_11,hm0,hm1,Bool.and_false,Bool.false_and,Bool.true_and,Bool.and_true,Bool.not_true,Bool.not_false,Bool.or_true,Bool.true_or,Bool.false_or,Bool.or_false];try rfl
   go_wp2_with fail
   go_quiet ((fail))
   all_goals go_wp2_with fail
   all_goals go_ret
   all_goals exact⟨rfl,by repeat(first|exact Below.refl _ _|exact HB2.out|apply z3q|apply z2q|apply z4q)⟩
 ·replace hm0:=Bool.eq_false_iff.mpr hm0
  obtain rfl:R=false:=by rw [←HR.out];simp only [nodeB_11,hm0,Bool.and_false,Bool.false_and,Bool.true_and,Bool.and_true,Bool.not_true,Bool.not_false,Bool.or_true,Bool.true_or,Bool.false_or,Bool.or_false];try rfl
  go_wp2_with fail
  go_quiet ((fail))
  all_goals go_wp2_with fail
  all_goals go_ret
  all_goals exact⟨rfl,by repeat(first|exact Below.refl _ _|exact HB2.out|apply z3q|apply z2q|apply z4q)⟩

set_option maxHeartbeats 16000000 in
set_option maxRecDepth 100000 in
theorem gn_12 (k:Int) (t:ByteArray) (n:Bool) (d x r c:Int) (p q:Bool) (r2 c2:Int) (p2 q2:Bool) (m:Int) (w:World) (hT:Tab w) (nm:Bool) (R:Bool) (hR:nodeB nm ((atoiV t).2.isNone && arB (atoiV t).1 t m) k t n d x r c p q r2 c2 p2 q2 m=R) (hN:k=7∨k=11→impl_isName.f NK t=some nm) (ht:t.size≤1048576) (hk:k=12):
  Calls Tryz.prog 74 #[.agg #[.int .i64 k,.string t,.bool n,.int .i64 d,.int .i64 x,.int .i64 r,.int .i64 c,.bool p,.bool q,.int .i64 r2,.int .i64 c2,.bool p2,.bool q2,.int .i64 m]] w fun e w'=>e= .returned (.bool R)∧Below w.heap.size w w':=by
 have HR:=Lib.hid hR;clear hR
 have HN:=Lib.hid hN;have HT:=Lib.hid hT;have HZ:=Lib.hid ht;clear hN hT ht
 subst hk
 go_enter Tryz.func74,Tryz.ntmps74
 go_upto_region 4 with fail
 obtain⟨v,er,hv⟩:∃ v er,atoiV t=(v,er):=⟨_,_,rfl⟩
 have HR2:=Lib.hid (show nodeB nm (er.isNone && arB v t m) 12 t n d x r c p q r2 c2 p2 q2 m=R by have:=HR.out;rw [hv]at this;exact this)
 clear HR
 have HR:=HR2;clear HR2
 have HA:=Lib.hid (show strconv_Atoi.f t=some (v,er)by unfold strconv_Atoi.f;rw [if_pos (by have:=HZ.out;omega),hv])
 clear hv
 go_wp2_with fail
 refine(strconv_Atoi.calls _ _ _ _ (HT.out.below (z2q (z2q (Below.refl w.heap.size w) _) _)) HA.out).mono ?_;rintro e w2 ⟨ev,rfl,hb,hev⟩
 obtain⟨hc2,hf2⟩:=bcell hb
 have HB2:=Lib.hid (z5q (z2q (z2q (Below.refl w.heap.size w) _) _) hb)
 have hsz2:w.heap.size+1<w2.heap.size:=by have h_:=hb.size;simp at h_;omega
 have hsy2:w.heap.size<w2.heap.size:=by omega
 clear hb
 cases er with
 |some ec=>
  obtain⟨N,rfl⟩:=hev.out
  obtain rfl:R=false:=by rw [←HR.out];simp only [nodeB_12,show Option.isNone (some ec)=false from rfl,Bool.and_false,Bool.false_and,Bool.true_and,Bool.and_true,Bool.not_true,Bool.not_false,Bool.or_true,Bool.true_or,Bool.false_or,Bool.or_false];try rfl
  go_wp2_with fail
  go_quiet ((fail))
  all_goals go_wp2_with fail
  all_goals go_ret
  all_goals exact⟨rfl,by repeat(first|exact Below.refl _ _|exact HB2.out|apply z3q|apply z2q|apply z4q)⟩
 |none=>
  obtain rfl:ev=Value.nilIface:=hev.out
  by_cases hv1:decide (1≤v)=true
  ·skip
   by_cases hv2:decide (v≤20)=true
   ·skip
    have HM:=Lib.hid (itoa_is v (by have:=of_decide_eq_true hv1;omega) (by have:=of_decide_eq_true hv2;omega))
    have hx13:w2.cell? ⟨w.heap.size,13,none⟩=some (.int .i64 m):=by rw [hc2 _ _ (by simp;omega)];simp [go_sem]
    have hx1:w2.cell? ⟨w.heap.size,1,none⟩=some (.string t):=by rw [hc2 _ _ (by simp;omega)];simp [go_sem]
    go_wp2_with fail
    have HB0:=Lib.hid (Below.refl w2.heap.size w2)
    have HB1:Hid (Below w.heap.size w w2):=Lib.hid (HB2.out)
    refine wp_region_held_drew (S:=(fun w'=>w'.cell? ⟨w.heap.size,1,none⟩=some (.string t)∧w'.cell? ⟨w.heap.size,13,none⟩=some (.int .i64 m)∧Below w2.heap.size w2 w'∧Below w.heap.size w w')) (by kernel_rfl) ?_ (fun hHeld=> ?_)
    ·try dsimp only
     (first|(go_split_ands;refine⟨?_,?_,?_,?_⟩<;>first|assumption|exact z9q hb (by assumption)|exact z5q (by assumption) hb|exact z4q (by assumption)|exact HB0.out|exact HB1.out|exact z4q HB0.out|exact z4q HB1.out|(simp [go_sem];done)))
    simp only [List.size_toArray,List.length_cons,List.length_nil,Nat.reduceAdd,Array.replicate_succ,Array.replicate_zero,List.push_toArray,List.append_toArray,List.nil_append,List.cons_append]
    refine tkV 0 ?_;refine tkV 1 ?_;refine tkV 2 ?_;refine tkV 3 ?_;refine tkV 4 ?_;refine tkV 5 ?_;refine tkV 6 ?_;refine tkV 7 ?_;refine tkV 8 ?_;refine tkV 9 ?_;refine tkV 10 ?_;refine tkV 11 ?_;refine tkV 13 ?_;refine tkV 14 ?_
    refine wpAnyH_ready (rs:= [12]) (by kernel_rfl) (by simp) ?_
    refine AllReadyH.cons rfl (fun K hK=> ?_) AllReadyH.nil
    go_simp
    (go_at_call 101;refine(strconv_Itoa.calls _ _ _ (HT.out.below (by first|assumption|(go_split_ands;assumption))) HM.out).mono ?_;rintro e w4 ⟨rfl,hb⟩)
    try go_wp2_with fail
    refine hK.out _ _ ?_ (fun hHeld=> ?_)
    ·try dsimp only
     (first|(go_split_ands;refine⟨?_,?_,?_,?_⟩<;>first|assumption|exact z9q hb (by assumption)|exact z5q (by assumption) hb|exact z4q (by assumption)|exact HB0.out|exact HB1.out|exact z4q HB0.out|exact z4q HB1.out|(simp [go_sem];done)))
    clear hK K
    try simp only [Act.put,setIfInBounds_toArray,set_cons_zero,set_cons_succ]
    by_cases ht:((txt v).toList==t.toList)=true
    ·skip
     by_cases hm1:decide (1≤m)=true
     ·skip
      by_cases hm2:decide (m≤100)=true
      ·skip
       have hv0:(v==0)=false:=beq_eq_false_iff_ne.mpr (by have:=of_decide_eq_true hv1;omega)
       have hvn:¬ v=0:=by have:=of_decide_eq_true hv1;omega
       have htm:Int.tmod m v=m % v:=Int.tmod_eq_emod_of_nonneg (by have:=of_decide_eq_true hm1;omega)
       by_cases hr:(Int.tmod m v==0)=true
       ·skip
        obtain rfl:R=((!n && (d==0 && x==0)) && ((r==0 && (c==0 && (!p && !q))) && (r2==0 && (c2==0 && (!p2 && !q2))))):=by rw [←HR.out];simp only [nodeB_12,arB,show Option.isNone (none:Option Int)=true from rfl,hv1,hv2,ht,hm1,hm2,hr,Bool.and_false,Bool.false_and,Bool.true_and,Bool.and_true,Bool.not_true,Bool.not_false,Bool.or_true,Bool.true_or,Bool.false_or,Bool.or_false];try rfl
        have hr2:(m % v==0)=true:=by rw [←htm];exact hr
        refine tkV 15 ?_;refine tkV 16 ?_;refine tkV 17 ?_;refine tkV 18 ?_;refine tkV 19 ?_;refine tkV 20 ?_;refine tkV 21 ?_;refine tkV 22 ?_;refine tkV 23 ?_;refine tkV 24 ?_;refine tkV 25 ?_;refine tkV 26 ?_;refine tkV 27 ?_;refine tkV 28 ?_;refine tkV 29 ?_;refine tkV 30 ?_;refine tkV 31 ?_;refine tkV 32 ?_;refine tkV 33 ?_;refine tkV 34 ?_
        refine wpAnyH_done (by kernel_rfl) ?_ _
        obtain⟨hs1,hs2,hs3,hs4⟩:=hHeld
        obtain⟨hcw,hfw⟩:=bcell hs3;have hzw:=hs3.size
        go_wp2_with fail
        go_ret
        exact⟨by first|rfl|(simp;done),by first|assumption|exact z4q (by assumption)⟩
       ·replace hr:=Bool.eq_false_iff.mpr hr
        obtain rfl:R=false:=by rw [←HR.out];simp only [nodeB_12,arB,show Option.isNone (none:Option Int)=true from rfl,hv1,hv2,ht,hm1,hm2,hr,Bool.and_false,Bool.false_and,Bool.true_and,Bool.and_true,Bool.not_true,Bool.not_false,Bool.or_true,Bool.true_or,Bool.false_or,Bool.or_false];try rfl
        have hr2:(m % v==0)=false:=by rw [←htm];exact hr
        refine tkV 15 ?_;refine tkV 16 ?_;refine tkV 17 ?_;refine tkV 18 ?_;refine tkV 19 ?_;refine tkV 20 ?_;refine tkV 21 ?_;refine tkV 22 ?_;refine tkV 23 ?_;refine tkV 24 ?_;refine tkV 25 ?_;refine tkV 26 ?_;refine tkV 27 ?_;refine tkV 28 ?_;refine tkV 29 ?_;refine tkV 30 ?_;refine tkV 31 ?_;refine tkV 32 ?_;refine tkV 33 ?_;refine tkV 34 ?_
        refine wpAnyH_done (by kernel_rfl) ?_ _
        obtain⟨hs1,hs2,hs3,hs4⟩:=hHeld
        go_wp2_with fail
        go_ret
        exact⟨by first|rfl|(simp;done),by first|assumption|exact z4q (by assumption)⟩
      ·replace hm2:=Bool.eq_false_iff.mpr hm2
       obtain rfl:R=false:=by rw [←HR.out];simp only [nodeB_12,arB,show Option.isNone (none:Option Int)=true from rfl,hv1,hv2,ht,hm1,hm2,Bool.and_false,Bool.false_and,Bool.true_and,Bool.and_true,Bool.not_true,Bool.not_false,Bool.or_true,Bool.true_or,Bool.false_or,Bool.or_false];try rfl
       refine tkV 15 ?_;refine tkV 16 ?_;refine tkV 17 ?_;refine tkV 18 ?_;refine tkV 19 ?_;refine tkV 20 ?_;refine tkV 21 ?_;refine tkV 22 ?_;refine tkV 23 ?_;refine tkV 24 ?_;refine tkV 25 ?_;refine tkV 26 ?_;refine tkV 27 ?_
       refine tkS 28 ?_;refine tkS 29 ?_;refine tkS 30 ?_;refine tkS 31 ?_;refine tkS 32 ?_
       refine tkV 33 ?_;refine tkV 34 ?_
       refine wpAnyH_done (by kernel_rfl) ?_ _
       obtain⟨hs1,hs2,hs3,hs4⟩:=hHeld
       go_wp2_with fail
       go_ret
       exact⟨by first|rfl|(simp;done),by first|assumption|exact z4q (by assumption)⟩
     ·replace hm1:=Bool.eq_false_iff.mpr hm1
      obtain rfl:R=false:=by rw [←HR.out];simp only [nodeB_12,arB,show Option.isNone (none:Option Int)=true from rfl,hv1,hv2,ht,hm1,Bool.and_false,Bool.false_and,Bool.true_and,Bool.and_true,Bool.not_true,Bool.not_false,Bool.or_true,Bool.true_or,Bool.false_or,Bool.or_false];try rfl
      refine tkV 15 ?_;refine tkV 16 ?_;refine tkV 17 ?_;refine tkV 18 ?_;refine tkV 19 ?_;refine tkV 20 ?_;refine tkV 21 ?_;refine tkV 22 ?_
      refine tkS 23 ?_;refine tkS 24 ?_;refine tkS 25 ?_
      refine tkV 26 ?_;refine tkV 27 ?_
      refine tkS 28 ?_;refine tkS 29 ?_;refine tkS 30 ?_;refine tkS 31 ?_;refine tkS 32 ?_
      refine tkV 33 ?_;refine tkV 34 ?_
      refine wpAnyH_done (by kernel_rfl) ?_ _
      obtain⟨hs1,hs2,hs3,hs4⟩:=hHeld
      go_wp2_with fail
      go_ret
      exact⟨by first|rfl|(simp;done),by first|assumption|exact z4q (by assumption)⟩
    ·replace ht:=Bool.eq_false_iff.mpr ht
     obtain rfl:R=false:=by rw [←HR.out];simp only [nodeB_12,arB,show Option.isNone (none:Option Int)=true from rfl,hv1,hv2,ht,Bool.and_false,Bool.false_and,Bool.true_and,Bool.and_true,Bool.not_true,Bool.not_false,Bool.or_true,Bool.true_or,Bool.false_or,Bool.or_false];try rfl
     refine tkV 15 ?_;refine tkV 16 ?_;refine tkV 17 ?_
     refine tkS 18 ?_;refine tkS 19 ?_;refine tkS 20 ?_
     refine tkV 21 ?_;refine tkV 22 ?_
     refine tkS 23 ?_;refine tkS 24 ?_;refine tkS 25 ?_
     refine tkV 26 ?_;refine tkV 27 ?_
     refine tkS 28 ?_;refine tkS 29 ?_;refine tkS 30 ?_;refine tkS 31 ?_;refine tkS 32 ?_
     refine tkV 33 ?_;refine tkV 34 ?_
     refine wpAnyH_done (by kernel_rfl) ?_ _
     obtain⟨hs1,hs2,hs3,hs4⟩:=hHeld
     go_wp2_with fail
     go_ret
     exact⟨by first|rfl|(simp;done),by first|assumption|exact z4q (by assumption)⟩
   ·replace hv2:=Bool.eq_false_iff.mpr hv2
    obtain rfl:R=false:=by rw [←HR.out];simp only [nodeB_12,arB,show Option.isNone (none:Option Int)=true from rfl,hv1,hv2,Bool.and_false,Bool.false_and,Bool.true_and,Bool.and_true,Bool.not_true,Bool.not_false,Bool.or_true,Bool.true_or,Bool.false_or,Bool.or_false];try rfl
    go_wp2_with fail
    go_quiet ((fail))
    all_goals go_wp2_with fail
    all_goals go_ret
    all_goals exact⟨rfl,by repeat(first|exact Below.refl _ _|exact HB2.out|apply z3q|apply z2q|apply z4q)⟩
  ·replace hv1:=Bool.eq_false_iff.mpr hv1
   obtain rfl:R=false:=by rw [←HR.out];simp only [nodeB_12,arB,show Option.isNone (none:Option Int)=true from rfl,hv1,Bool.and_false,Bool.false_and,Bool.true_and,Bool.and_true,Bool.not_true,Bool.not_false,Bool.or_true,Bool.true_or,Bool.false_or,Bool.or_false];try rfl
   go_wp2_with fail
   go_quiet ((fail))
   all_goals go_wp2_with fail
   all_goals go_ret
   all_goals exact⟨rfl,by repeat(first|exact Below.refl _ _|exact HB2.out|apply z3q|apply z2q|apply z4q)⟩

set_option maxHeartbeats 16000000 in
set_option maxRecDepth 100000 in
theorem gn_0 (k:Int) (t:ByteArray) (n:Bool) (d x r c:Int) (p q:Bool) (r2 c2:Int) (p2 q2:Bool) (m:Int) (w:World) (hT:Tab w) (nm:Bool) (R:Bool) (hR:nodeB nm ((atoiV t).2.isNone && arB (atoiV t).1 t m) k t n d x r c p q r2 c2 p2 q2 m=R) (hN:k=7∨k=11→impl_isName.f NK t=some nm) (ht:t.size≤1048576) (hk1:¬ k=1) (hk2:¬ k=2) (hk3:¬ k=3) (hk4:¬ k=4) (hk5:¬ k=5) (hk6:¬ k=6) (hk7:¬ k=7) (hk13:¬ k=13) (hk8:¬ k=8) (hk9:¬ k=9) (hk10:¬ k=10) (hk11:¬ k=11) (hk12:¬ k=12):
  Calls Tryz.prog 74 #[.agg #[.int .i64 k,.string t,.bool n,.int .i64 d,.int .i64 x,.int .i64 r,.int .i64 c,.bool p,.bool q,.int .i64 r2,.int .i64 c2,.bool p2,.bool q2,.int .i64 m]] w fun e w'=>e= .returned (.bool R)∧Below w.heap.size w w':=by
 have HR:=Lib.hid hR;clear hR
 have HN:=Lib.hid hN;have HT:=Lib.hid hT;have HZ:=Lib.hid ht;clear hN hT ht
 have HK1:=Lib.hid hk1;have hb1:(k==1)=false:=beq_eq_false_iff_ne.mpr hk1;clear hk1
 have HK2:=Lib.hid hk2;have hb2:(k==2)=false:=beq_eq_false_iff_ne.mpr hk2;clear hk2
 have HK3:=Lib.hid hk3;have hb3:(k==3)=false:=beq_eq_false_iff_ne.mpr hk3;clear hk3
 have HK4:=Lib.hid hk4;have hb4:(k==4)=false:=beq_eq_false_iff_ne.mpr hk4;clear hk4
 have HK5:=Lib.hid hk5;have hb5:(k==5)=false:=beq_eq_false_iff_ne.mpr hk5;clear hk5
 have HK6:=Lib.hid hk6;have hb6:(k==6)=false:=beq_eq_false_iff_ne.mpr hk6;clear hk6
 have HK7:=Lib.hid hk7;have hb7:(k==7)=false:=beq_eq_false_iff_ne.mpr hk7;clear hk7
 have HK13:=Lib.hid hk13;have hb13:(k==13)=false:=beq_eq_false_iff_ne.mpr hk13;clear hk13
 have HK8:=Lib.hid hk8;have hb8:(k==8)=false:=beq_eq_false_iff_ne.mpr hk8;clear hk8
 have HK9:=Lib.hid hk9;have hb9:(k==9)=false:=beq_eq_false_iff_ne.mpr hk9;clear hk9
 have HK10:=Lib.hid hk10;have hb10:(k==10)=false:=beq_eq_false_iff_ne.mpr hk10;clear hk10
 have HK11:=Lib.hid hk11;have hb11:(k==11)=false:=beq_eq_false_iff_ne.mpr hk11;clear hk11
 have HK12:=Lib.hid hk12;have hb12:(k==12)=false:=beq_eq_false_iff_ne.mpr hk12;clear hk12
 go_enter Tryz.func74,Tryz.ntmps74
 go_upto_region 4 with fail
 obtain rfl:R=false:=by rw [←HR.out];unfold nodeB;rw [if_neg HK1.out,if_neg HK5.out,if_neg HK6.out,if_neg HK2.out,if_neg HK3.out,if_neg HK4.out,if_neg HK7.out,if_neg HK13.out,if_neg (fun h=>h.elim HK8.out HK9.out),if_neg HK10.out,if_neg HK11.out,if_neg HK12.out,Bool.and_false]
 go_wp2_with fail
 go_ret
 exact⟨by first|rfl|(simp;done),by repeat(first|assumption|exact Below.refl _ _|exact HB2.out|exact HB3.out|apply z2q|apply z4q|apply z3q)⟩

theorem goodNode_walk (k:Int) (t:ByteArray) (n:Bool) (d x r c:Int) (p q:Bool) (r2 c2:Int) (p2 q2:Bool) (m:Int) (w:World) (hT:Tab w) (nm:Bool) (R:Bool) (hR:nodeB nm ((atoiV t).2.isNone && arB (atoiV t).1 t m) k t n d x r c p q r2 c2 p2 q2 m=R) (hN:k=7∨k=11→impl_isName.f NK t=some nm) (ht:t.size≤1048576):
  Calls Tryz.prog 74 #[.agg #[.int .i64 k,.string t,.bool n,.int .i64 d,.int .i64 x,.int .i64 r,.int .i64 c,.bool p,.bool q,.int .i64 r2,.int .i64 c2,.bool p2,.bool q2,.int .i64 m]] w fun e w'=>e= .returned (.bool R)∧Below w.heap.size w w':=by
 by_cases h1:k=1
 ·exact gn_1 k t n d x r c p q r2 c2 p2 q2 m w hT nm R hR hN ht h1
 by_cases h2:k=2
 ·exact gn_2 k t n d x r c p q r2 c2 p2 q2 m w hT nm R hR hN ht h2
 by_cases h3:k=3
 ·exact gn_3 k t n d x r c p q r2 c2 p2 q2 m w hT nm R hR hN ht h3
 by_cases h4:k=4
 ·exact gn_4 k t n d x r c p q r2 c2 p2 q2 m w hT nm R hR hN ht h4
 by_cases h5:k=5
 ·exact gn_5 k t n d x r c p q r2 c2 p2 q2 m w hT nm R hR hN ht h5
 by_cases h6:k=6
 ·exact gn_6 k t n d x r c p q r2 c2 p2 q2 m w hT nm R hR hN ht h6
 by_cases h7:k=7
 ·exact gn_7 k t n d x r c p q r2 c2 p2 q2 m w hT nm R hR hN ht h7
 by_cases h13:k=13
 ·exact gn_13 k t n d x r c p q r2 c2 p2 q2 m w hT nm R hR hN ht h13
 by_cases h8:k=8
 ·exact gn_8 k t n d x r c p q r2 c2 p2 q2 m w hT nm R hR hN ht h8
 by_cases h9:k=9
 ·exact gn_9 k t n d x r c p q r2 c2 p2 q2 m w hT nm R hR hN ht h9
 by_cases h10:k=10
 ·exact gn_10 k t n d x r c p q r2 c2 p2 q2 m w hT nm R hR hN ht h10
 by_cases h11:k=11
 ·exact gn_11 k t n d x r c p q r2 c2 p2 q2 m w hT nm R hR hN ht h11
 by_cases h12:k=12
 ·exact gn_12 k t n d x r c p q r2 c2 p2 q2 m w hT nm R hR hN ht h12
 exact gn_0 k t n d x r c p q r2 c2 p2 q2 m w hT nm R hR hN ht h1 h2 h3 h4 h5 h6 h7 h13 h8 h9 h10 h11 h12

theorem impl_goodNode.calls (a0_0:Int) (a0_1:ByteArray) (a0_2:Bool) (a0_3:Int) (a0_4:Int) (a0_5:Int) (a0_6:Int) (a0_7:Bool) (a0_8:Bool) (a0_9:Int) (a0_10:Int) (a0_11:Bool) (a0_12:Bool) (a0_13:Int) (r:Bool) (w:World) (hT:Tab w) (h:impl_goodNode.f a0_0 a0_1 a0_2 a0_3 a0_4 a0_5 a0_6 a0_7 a0_8 a0_9 a0_10 a0_11 a0_12 a0_13=some r):
  Calls Tryz.prog 74 #[.agg #[.int .i64 a0_0,.string a0_1,.bool a0_2,.int .i64 a0_3,.int .i64 a0_4,.int .i64 a0_5,.int .i64 a0_6,.bool a0_7,.bool a0_8,.int .i64 a0_9,.int .i64 a0_10,.bool a0_11,.bool a0_12,.int .i64 a0_13]] w fun e w'=>e= .returned (.bool r)∧Below w.heap.size w w':=by
 unfold impl_goodNode.f at h
 by_cases hs:a0_1.size≤1048576
 ·rw [if_pos hs]at h
  obtain⟨nm,hnm,h⟩:=Option.bind_eq_some_iff.mp h
  exact goodNode_walk a0_0 a0_1 a0_2 a0_3 a0_4 a0_5 a0_6 a0_7 a0_8 a0_9 a0_10 a0_11 a0_12 a0_13 w hT nm r (Option.some.inj h) (fun hk=>by rw [if_pos hk]at hnm;exact hnm) hs
 ·rw [if_neg hs]at h;cases h



/-! ### impl_goodTree: function 37 -/
/- over impl_goodNode.f -/

/-- The kids of a node, one behind the other: the place behind them, -1 where one is not right. -/
def gKids (rec:Int→Option Int) (l:List S67) (kind many:Int):Nat→Int→Option Int
 |0,i=>some i
 |m+1,i=>if i≥(l.length:Int)then some (-1)else if i<0 then none else
  if(rd_T67 l i).f0=13∧(¬ kind=11∨many=1)then some (-1)else
  if kind=12∧¬ ((rd_T67 l i).f0=1∨(rd_T67 l i).f0=2∨(rd_T67 l i).f0=3∨(rd_T67 l i).f0=4∨((rd_T67 l i).f0=8∧i+1<(l.length:Int)∧(rd_T67 l (i+1)).f0=1))then some (-1)else
  (rec i).bind fun j=>if j<0 then some (-1)else gKids rec l kind many m j

def goodN (x:S67):Option Bool:=impl_goodNode.f x.f0 x.f1 x.f2.f0 x.f2.f1 x.f2.f2 x.f3.f0 x.f3.f1 x.f3.f2 x.f3.f3 x.f4.f0 x.f4.f1 x.f4.f2 x.f4.f3 x.f5

/-- A tree from a place on, as the program looks at it. -/
def gTree (l:List S67):Nat→Int→Int→Option Int
 |0,_,_=>none
 |d+1,i,deep=>if i≥(l.length:Int)then some (-1)else if deep > 40 then some (-1)else if i<0 then none else
  (goodN (rd_T67 l i)).bind fun g=>if g=true then gKids (fun j=>gTree l d j (deep+1)) l (rd_T67 l i).f0 (rd_T67 l i).f5 (rd_T67 l i).f5.toNat (i+1)else some (-1)

def impl_goodTree.f (k:Nat) (l0:List S67) (a1 a2:Int):Option Int:=if 0≤a2∧l0.length≤1048576 then gTree l0 60 a1 a2 else none

theorem gKids_le {rec:Int→Option Int} {l:List S67} {kind many:Int} (hl:l.length≤1048576) (hrec:∀ i j,0≤i→i≤1048577→rec i=some j→j≤1048577):∀ (m:Nat) (i j:Int),0≤i→i≤1048577→gKids rec l kind many m i=some j→j≤1048577
 |0,i,j,_,h2,h=>by rw [gKids]at h;have:=Option.some.inj h;omega
 |m+1,i,j,h1,h2,h=>by
  rw [gKids]at h
  by_cases c1:i≥(l.length:Int)
  ·rw [if_pos c1]at h;have:=Option.some.inj h;omega
  rw [if_neg c1,if_neg (by omega:¬ i<0)]at h
  by_cases c2:(rd_T67 l i).f0=13∧(¬ kind=11∨many=1)
  ·rw [if_pos c2]at h;have:=Option.some.inj h;omega
  rw [if_neg c2]at h
  split at h
  ·have:=Option.some.inj h;omega
  obtain⟨j2,hj,h⟩:=Option.bind_eq_some_iff.mp h
  by_cases c3:j2<0
  ·rw [if_pos c3]at h;have:=Option.some.inj h;omega
  rw [if_neg c3]at h
  exact gKids_le hl hrec m j2 j (by omega) (hrec i j2 h1 h2 hj) h

theorem gTree_le (l:List S67) (hl:l.length≤1048576):∀ (d:Nat) (i deep j:Int),0≤i→i≤1048577→gTree l d i deep=some j→j≤1048577
 |0,_,_,_,_,_,h=>by cases h
 |d+1,i,deep,j,h1,h2,h=>by
  rw [gTree]at h
  by_cases c1:i≥(l.length:Int)
  ·rw [if_pos c1]at h;have:=Option.some.inj h;omega
  rw [if_neg c1]at h
  by_cases c2:deep > 40
  ·rw [if_pos c2]at h;have:=Option.some.inj h;omega
  rw [if_neg c2,if_neg (by omega:¬ i<0)]at h
  obtain⟨g,hg,h⟩:=Option.bind_eq_some_iff.mp h
  by_cases c3:g=true
  ·rw [if_pos c3]at h
   exact gKids_le hl (fun i j h1 h2 h=>gTree_le l hl d i (deep+1) j h1 h2 h) _ (i+1) j (by omega) (by omega) h
  ·rw [if_neg c3]at h;have:=Option.some.inj h;omega


theorem nodeB_kids {nm ar:Bool} {k:Int} {t:ByteArray} {n:Bool} {d x r c:Int} {p q:Bool} {r2 c2:Int} {p2 q2:Bool} {m:Int} (har:ar=true→1≤m∧m≤100) (h:nodeB nm ar k t n d x r c p q r2 c2 p2 q2 m=true):0≤m∧m≤100:=by
 have e0:(m==0)=true→0≤m∧m≤100:=fun h=>by have:=beq_iff_eq.mp h;omega
 have e1:(m==1)=true→0≤m∧m≤100:=fun h=>by have:=beq_iff_eq.mp h;omega
 have e2:(m==2)=true→0≤m∧m≤100:=fun h=>by have:=beq_iff_eq.mp h;omega
 unfold nodeB at h
 by_cases h1:k=1
 ·rw [if_pos h1]at h;exact e0 (Bool.and_eq_true_iff.mp h).1
 rw [if_neg h1]at h
 by_cases h5:k=5
 ·rw [if_pos h5]at h;exact e0 (Bool.and_eq_true_iff.mp h).1
 rw [if_neg h5]at h
 by_cases h6:k=6
 ·rw [if_pos h6]at h;exact e0 (Bool.and_eq_true_iff.mp h).1
 rw [if_neg h6]at h
 replace h:=(Bool.and_eq_true_iff.mp h).2
 by_cases g1:k=2
 ·rw [if_pos g1]at h;exact e0 (Bool.and_eq_true_iff.mp h).1
 rw [if_neg g1]at h
 by_cases g2:k=3
 ·rw [if_pos g2]at h;exact e0 (Bool.and_eq_true_iff.mp h).1
 rw [if_neg g2]at h
 by_cases g3:k=4
 ·rw [if_pos g3]at h;exact e0 (Bool.and_eq_true_iff.mp h).1
 rw [if_neg g3]at h
 by_cases g4:k=7
 ·rw [if_pos g4]at h;exact e0 (Bool.and_eq_true_iff.mp h).1
 rw [if_neg g4]at h
 by_cases g5:k=13
 ·rw [if_pos g5]at h;exact e0 (Bool.and_eq_true_iff.mp h).1
 rw [if_neg g5]at h
 by_cases g6:k=8∨k=9
 ·rw [if_pos g6]at h;exact e1 (Bool.and_eq_true_iff.mp h).1
 rw [if_neg g6]at h
 by_cases g7:k=10
 ·rw [if_pos g7]at h;exact e2 (Bool.and_eq_true_iff.mp h).1
 rw [if_neg g7]at h
 by_cases g8:k=11
 ·rw [if_pos g8]at h
  have ha:=of_decide_eq_true (Bool.and_eq_true_iff.mp h).1
  have hb:=of_decide_eq_true (Bool.and_eq_true_iff.mp (Bool.and_eq_true_iff.mp h).2).1
  omega
 rw [if_neg g8]at h
 by_cases g9:k=12
 ·rw [if_pos g9]at h;have:=har h;omega
 ·rw [if_neg g9]at h;cases h

theorem arB_kids {v:Int} {t:ByteArray} {m:Int} (h:arB v t m=true):1≤m∧m≤100:=by
 unfold arB at h
 have a:=(Bool.and_eq_true_iff.mp (Bool.and_eq_true_iff.mp (Bool.and_eq_true_iff.mp h).2).2).2
 have b:=of_decide_eq_true (Bool.and_eq_true_iff.mp a).1
 have c:=of_decide_eq_true (Bool.and_eq_true_iff.mp (Bool.and_eq_true_iff.mp a).2).1
 exact⟨b,c⟩

theorem goodN_kids {x:S67} (h:goodN x=some true):0≤x.f5∧x.f5≤100:=by
 unfold goodN impl_goodNode.f at h
 by_cases hs:x.f1.size≤1048576
 ·rw [if_pos hs]at h
  obtain⟨nm,_,h⟩:=Option.bind_eq_some_iff.mp h
  exact nodeB_kids (fun ha=>arB_kids (Bool.and_eq_true_iff.mp ha).2) (Option.some.inj h)
 ·rw [if_neg hs]at h;cases h

set_option maxHeartbeats 16000000 in
set_option maxRecDepth 100000 in
theorem gTree_calls (l:List S67) (A:Option Addr) (cp:Nat) (hcp:l.length≤cp) (hlen:l.length≤1048576):∀ (d:Nat) (at_ deep r:Int) (w:World),Kd.C k67 w A l.length l→Tab w→0≤deep→gTree l d at_ deep=some r→
  Calls Tryz.prog 37 #[.slice A l.length cp,.int .i64 at_,.int .i64 deep] w fun e w'=>e= .returned (.int .i64 r)∧Below w.heap.size w w':=by
 intro d
 induction d with
 |zero=>intro at_ deep r w _ _ _ h;cases h
 |succ d ih=>
 intro at_ deep r w hC hT hd0 h
 have HC:=Lib.hid hC;have HT:=Lib.hid hT;have HCP:=Lib.hid hcp;have IH:=Lib.hid ih;clear hC hT hcp ih
 rw [gTree]at h
 by_cases c1:at_≥(l.length:Int)
 ·rw [if_pos c1]at h
  obtain rfl:=Option.some.inj h
  have b1:decide ((l.length:Int)≤at_)=true:=decide_eq_true c1
  clear c1 h hlen
  go_enter Tryz.func37,Tryz.ntmps37
  go_wp2_with fail
  go_ret
  exact⟨rfl,Below.refl _ _⟩
 rw [if_neg c1]at h
 have b1:decide ((l.length:Int)≤at_)=false:=decide_eq_false (by omega)
 by_cases c2:deep > 40
 ·rw [if_pos c2]at h
  obtain rfl:=Option.some.inj h
  have b2:decide (40<deep)=true:=decide_eq_true c2
  clear c1 c2 h hlen
  go_enter Tryz.func37,Tryz.ntmps37
  go_wp2_with fail
  go_ret
  exact⟨rfl,Below.refl _ _⟩
 rw [if_neg c2]at h
 have b2:decide (40<deep)=false:=decide_eq_false (by omega)
 by_cases c3:at_<0
 ·rw [if_pos c3]at h;cases h
 rw [if_neg c3]at h
 obtain⟨g,hg,H⟩:=Option.bind_eq_some_iff.mp h
 clear h
 have hk:=fun hh:g=true=>goodN_kids (x:=rd_T67 l at_) (hh ▸ hg)
 obtain⟨ad,rfl,x0,x1,x2,x3,x4,x5,x6,x7,x8,x9,x10,x11,x12,x13⟩:=at_T67 HC.out at_ (by omega) (by omega)
 have p1:(0≤at_)=True:=eq_true (by omega)
 have p2:(at_<(l.length:Int))=True:=eq_true (by omega)
 have e0:0≤at_:=by omega
 have e1:at_≤1048576:=by omega
 have e2:deep≤40:=by omega
 have HG:=Lib.hid hg
 clear c1 c2 c3 hg
 unfold goodN at HG
 generalize rd_T67 l at_=X at *
 obtain⟨n0,n1,⟨n2,n3,n4⟩,⟨n5,n6,n7,n8⟩,⟨n9,n10,n11,n12⟩,n13⟩:=X
 simp only at x0 x1 x2 x3 x4 x5 x6 x7 x8 x9 x10 x11 x12 x13 HG H hk
 cases g with
 |false=>
  rw [if_neg (by decide)]at H
  obtain rfl:=Option.some.inj H
  clear H hk hlen
  go_enter Tryz.func37,Tryz.ntmps37
  go_wp2_with fail
  refine(impl_goodNode.calls _ _ _ _ _ _ _ _ _ _ _ _ _ _ _ _ HT.out HG.out).mono ?_;rintro e w2 ⟨rfl,hb⟩
  have HB2:=Lib.hid hb;clear hb
  go_wp2_with fail
  go_ret
  exact⟨rfl,HB2.out⟩
 |true=>
  rw [if_pos rfl]at H
  obtain⟨hk0,hk1⟩:=hk rfl
  have H':=Lib.hid H;clear H hk
  go_enter Tryz.func37,Tryz.ntmps37
  go_wp2_with fail
  refine(impl_goodNode.calls _ _ _ _ _ _ _ _ _ _ _ _ _ _ _ _ HT.out HG.out).mono ?_;rintro e w2 ⟨rfl,hb⟩
  have HB2:=Lib.hid hb
  replace x0:=z9q hb x0
  replace x1:=z9q hb x1
  replace x2:=z9q hb x2
  replace x3:=z9q hb x3
  replace x4:=z9q hb x4
  replace x5:=z9q hb x5
  replace x6:=z9q hb x6
  replace x7:=z9q hb x7
  replace x8:=z9q hb x8
  replace x9:=z9q hb x9
  replace x10:=z9q hb x10
  replace x11:=z9q hb x11
  replace x12:=z9q hb x12
  replace x13:=z9q hb x13
  clear hb
  go_wp2_with fail
  have hq0:(w2.alloc (.cells #[.int .i64 n0,.string n1,.bool n2,.int .i64 n3,.int .i64 n4,.int .i64 n5,.int .i64 n6,.bool n7,.bool n8,.int .i64 n9,.int .i64 n10,.bool n11,.bool n12,.int .i64 n13] 67)).cell? ⟨w2.heap.size,0,none⟩=some (.int .i64 n0):=by simp [go_sem]
  have hq13:(w2.alloc (.cells #[.int .i64 n0,.string n1,.bool n2,.int .i64 n3,.int .i64 n4,.int .i64 n5,.int .i64 n6,.bool n7,.bool n8,.int .i64 n9,.int .i64 n10,.bool n11,.bool n12,.int .i64 n13] 67)).cell? ⟨w2.heap.size,13,none⟩=some (.int .i64 n13):=by simp [go_sem]
  have HQ0:=Lib.hid hq0;have HQ13:=Lib.hid hq13;clear hq0 hq13
  have HB3:=Lib.hid (z2q HB2.out (.cells #[.int .i64 n0,.string n1,.bool n2,.int .i64 n3,.int .i64 n4,.int .i64 n5,.int .i64 n6,.bool n7,.bool n8,.int .i64 n9,.int .i64 n10,.bool n11,.bool n12,.int .i64 n13] 67))
  clear x0 x1 x2 x3 x4 x5 x6 x7 x8 x9 x10 x11 x12 x13
  go_loopw [8,9] (fun v8 v9 w'=>∃ x kk:Int,v8= .int .i64 x∧v9= .int .i64 kk∧0≤x∧x≤1048577∧0≤kk∧kk≤100∧Hid (gKids (fun j=>gTree l d j (deep+1)) l n0 n13 (n13-kk).toNat x=some r)∧Hid (w'.cell? ⟨w2.heap.size,0,none⟩=some (.int .i64 n0))∧Hid (w'.cell? ⟨w2.heap.size,13,none⟩=some (.int .i64 n13))∧Hid (Below w.heap.size w w')∧Hid (w2.heap.size<w'.heap.size)) (fun _ v9 _=>(n13-intOf v9).toNat)
  case atStart=>exact⟨at_+1,0,rfl,rfl,by omega,by omega,by omega,by omega,by rw [Int.sub_zero];exact H',HQ0,HQ13,HB3,Lib.hid (by simp)⟩
  case round=>
   clear H' HQ0 HQ13 HB3 HB2 HG
   obtain⟨x,kk,rfl,rfl,hx0,hx1,hkk0,hkk1,HA,HQ0,HQ13,HBr,HZ⟩:=hrel
   have hq0:=HQ0.out;have hq13:=HQ13.out;have hz:=HZ.out
   have H:=HA.out
   clear HA
   by_cases c1:kk<n13
   ·have b3:decide (kk<n13)=true:=decide_eq_true c1
    obtain⟨m,hm⟩:∃ m:Nat,(n13-kk).toNat=m+1:=⟨(n13-kk).toNat-1,by omega⟩
    have HM:=Lib.hid (show(n13-(kk+1)).toNat=m by omega)
    rw [hm,gKids]at H
    clear hm
    by_cases c2:x≥(l.length:Int)
    ·rw [if_pos c2]at H
     have b4:decide ((l.length:Int)≤x)=true:=decide_eq_true c2
     clear c1 c2 hlen
     obtain rfl:=Option.some.inj H
     clear H
     go_wp2_with fail
     go_ret
     exact⟨rfl,by repeat(first|exact HBr.out|apply z2q)⟩
    rw [if_neg c2,if_neg (by omega:¬ x<0)]at H
    have b4:decide ((l.length:Int)≤x)=false:=decide_eq_false (by omega)
    have hCr:=Kd.C_below HC.out HBr.out
    obtain⟨ad2,he2,y0,y1,y2,y3,y4,y5,y6,y7,y8,y9,y10,y11,y12,y13⟩:=at_T67 hCr x hx0 (by omega)
    obtain rfl:ad=ad2:=by injection he2
    have p3:(0≤x)=True:=eq_true hx0
    have p4:(x<(l.length:Int))=True:=eq_true (by omega)
    have H8:=Lib.hid (fun h:x+1<(l.length:Int)=>at_T67 hCr (x+1) (by omega) h)
    have HL:=Lib.hid (show kk<n13∧x<(l.length:Int)∧l.length≤1048576 from⟨c1,by omega,hlen⟩)
    clear hCr c1 c2 he2
    generalize hK:(rd_T67 l x)=K at *
    clear hK
    obtain⟨z0,z1,⟨z2,z3,z4⟩,⟨z5,z6,z7,z8⟩,⟨z9,z10,z11,z12⟩,z13⟩:=K
    simp only at y0 y1 y2 y3 y4 y5 y6 y7 y8 y9 y10 y11 y12 y13 H
    by_cases hf13:z0=13
    ·subst hf13
     by_cases hf11:n0=11
     ·subst hf11
      by_cases hfm:n13=1
      ·rw [if_pos ⟨rfl,.inr hfm⟩]at H
       subst hfm
       obtain rfl:=Option.some.inj H
       clear H
       go_wp2_with fail
       go_ret
       exact⟨rfl,by repeat(first|exact HBr.out|apply z2q)⟩
      rw [if_neg (fun h=>h.2.elim (fun h=>h rfl) hfm),if_neg (fun h=>absurd h.1 (by decide))]at H
      have fm:(n13==1)=false:=beq_eq_false_iff_ne.mpr hfm
      clear hfm
      obtain⟨j,hj,H⟩:=Option.bind_eq_some_iff.mp H
      have HJ:=Lib.hid hj;clear hj
      have hx2:=HL.out.2.1
      go_wp2_with fail
      refine(IH.out x (deep+1) j _ (Kd.C_below HC.out (z2q HBr.out _)) (HT.out.below (z2q HBr.out _)) (by omega) HJ.out).mono ?_;rintro e w5 ⟨rfl,hb⟩
      have HQ0b:=Lib.hid (z9q hb (z9q (z2q (Below.refl _ _) _) HQ0.out))
      have HQ13b:=Lib.hid (z9q hb (z9q (z2q (Below.refl _ _) _) HQ13.out))
      have HB5:=Lib.hid (z5q (z2q HBr.out _) hb)
      have HZ5:=Lib.hid (Nat.lt_of_lt_of_le HZ.out (Nat.le_trans (z2q (Below.refl wr.heap.size wr) _).size hb.size))
      clear hb hq0 hq13 hz y0 y1 y2 y3 y4 y5 y6 y7 y8 y9 y10 y11 y12 y13
      by_cases cj:j<0
      ·rw [if_pos cj]at H
       obtain rfl:=Option.some.inj H
       have b9:decide (j<0)=true:=decide_eq_true cj
       clear H cj
       go_wp2_with fail
       go_ret
       exact⟨rfl,HB5.out⟩
      ·rw [if_neg cj]at H
       have b9:decide (j<0)=false:=decide_eq_false cj
       have HJ2:=Lib.hid (show 0≤j∧j≤1048577 from⟨by omega,gTree_le l hlen d x (deep+1) j hx0 hx1 HJ.out⟩)
       have HH:=Lib.hid H;clear H cj
       go_wp2_with fail
       go_roundw
       case rel=>exact⟨j,kk+1,rfl,by first|rfl|(rw [show wrap64 (kk+1)=kk+1 from by unfold wrap64;omega]),HJ2.out.1,HJ2.out.2,by omega,by have:=HL.out.1;omega,by rw [HM.out];exact HH,HQ0b,HQ13b,HB5,HZ5⟩
       case measure=>(have hw_:wrap64 (kk+1)=kk+1:=by unfold wrap64;omega);have:=HL.out.1;simp [intOf,hw_];omega
     rw [if_pos ⟨rfl,.inl hf11⟩]at H
     have f11:(n0 !=11)=true:=bne_iff_ne.mpr hf11
     have f11b:(n0==11)=false:=beq_eq_false_iff_ne.mpr hf11
     obtain rfl:=Option.some.inj H
     clear H
     go_wp2_with fail
     go_ret
     exact⟨rfl,by repeat(first|exact HBr.out|apply z2q)⟩
    rw [if_neg (fun h=>hf13 h.1)]at H
    have f13:(z0==13)=false:=beq_eq_false_iff_ne.mpr hf13
    clear hf13
    by_cases hf12:n0=12
    ·subst hf12
     by_cases hg1:z0=1
     ·subst hg1
      rw [if_neg (fun h=>h.2 (.inl rfl))]at H
      obtain⟨j,hj,H⟩:=Option.bind_eq_some_iff.mp H
      have HJ:=Lib.hid hj;clear hj
      have hx2:=HL.out.2.1
      go_wp2_with fail
      refine(IH.out x (deep+1) j _ (Kd.C_below HC.out (z2q HBr.out _)) (HT.out.below (z2q HBr.out _)) (by omega) HJ.out).mono ?_;rintro e w5 ⟨rfl,hb⟩
      have HQ0b:=Lib.hid (z9q hb (z9q (z2q (Below.refl _ _) _) HQ0.out))
      have HQ13b:=Lib.hid (z9q hb (z9q (z2q (Below.refl _ _) _) HQ13.out))
      have HB5:=Lib.hid (z5q (z2q HBr.out _) hb)
      have HZ5:=Lib.hid (Nat.lt_of_lt_of_le HZ.out (Nat.le_trans (z2q (Below.refl wr.heap.size wr) _).size hb.size))
      clear hb hq0 hq13 hz y0 y1 y2 y3 y4 y5 y6 y7 y8 y9 y10 y11 y12 y13
      by_cases cj:j<0
      ·rw [if_pos cj]at H
       obtain rfl:=Option.some.inj H
       have b9:decide (j<0)=true:=decide_eq_true cj
       clear H cj
       go_wp2_with fail
       go_ret
       exact⟨rfl,HB5.out⟩
      ·rw [if_neg cj]at H
       have b9:decide (j<0)=false:=decide_eq_false cj
       have HJ2:=Lib.hid (show 0≤j∧j≤1048577 from⟨by omega,gTree_le l hlen d x (deep+1) j hx0 hx1 HJ.out⟩)
       have HH:=Lib.hid H;clear H cj
       go_wp2_with fail
       go_roundw
       case rel=>exact⟨j,kk+1,rfl,by first|rfl|(rw [show wrap64 (kk+1)=kk+1 from by unfold wrap64;omega]),HJ2.out.1,HJ2.out.2,by omega,by have:=HL.out.1;omega,by rw [HM.out];exact HH,HQ0b,HQ13b,HB5,HZ5⟩
       case measure=>(have hw_:wrap64 (kk+1)=kk+1:=by unfold wrap64;omega);have:=HL.out.1;simp [intOf,hw_];omega
     have g1:(z0==1)=false:=beq_eq_false_iff_ne.mpr hg1
     by_cases hg2:z0=2
     ·subst hg2
      rw [if_neg (fun h=>h.2 ((.inr (.inl rfl))))]at H
      obtain⟨j,hj,H⟩:=Option.bind_eq_some_iff.mp H
      have HJ:=Lib.hid hj;clear hj
      have hx2:=HL.out.2.1
      go_wp2_with fail
      refine(IH.out x (deep+1) j _ (Kd.C_below HC.out (z2q HBr.out _)) (HT.out.below (z2q HBr.out _)) (by omega) HJ.out).mono ?_;rintro e w5 ⟨rfl,hb⟩
      have HQ0b:=Lib.hid (z9q hb (z9q (z2q (Below.refl _ _) _) HQ0.out))
      have HQ13b:=Lib.hid (z9q hb (z9q (z2q (Below.refl _ _) _) HQ13.out))
      have HB5:=Lib.hid (z5q (z2q HBr.out _) hb)
      have HZ5:=Lib.hid (Nat.lt_of_lt_of_le HZ.out (Nat.le_trans (z2q (Below.refl wr.heap.size wr) _).size hb.size))
      clear hb hq0 hq13 hz y0 y1 y2 y3 y4 y5 y6 y7 y8 y9 y10 y11 y12 y13
      by_cases cj:j<0
      ·rw [if_pos cj]at H
       obtain rfl:=Option.some.inj H
       have b9:decide (j<0)=true:=decide_eq_true cj
       clear H cj
       go_wp2_with fail
       go_ret
       exact⟨rfl,HB5.out⟩
      ·rw [if_neg cj]at H
       have b9:decide (j<0)=false:=decide_eq_false cj
       have HJ2:=Lib.hid (show 0≤j∧j≤1048577 from⟨by omega,gTree_le l hlen d x (deep+1) j hx0 hx1 HJ.out⟩)
       have HH:=Lib.hid H;clear H cj
       go_wp2_with fail
       go_roundw
       case rel=>exact⟨j,kk+1,rfl,by first|rfl|(rw [show wrap64 (kk+1)=kk+1 from by unfold wrap64;omega]),HJ2.out.1,HJ2.out.2,by omega,by have:=HL.out.1;omega,by rw [HM.out];exact HH,HQ0b,HQ13b,HB5,HZ5⟩
       case measure=>(have hw_:wrap64 (kk+1)=kk+1:=by unfold wrap64;omega);have:=HL.out.1;simp [intOf,hw_];omega
     have g2:(z0==2)=false:=beq_eq_false_iff_ne.mpr hg2
     by_cases hg3:z0=3
     ·subst hg3
      rw [if_neg (fun h=>h.2 (((.inr (.inr (.inl rfl))))))]at H
      obtain⟨j,hj,H⟩:=Option.bind_eq_some_iff.mp H
      have HJ:=Lib.hid hj;clear hj
      have hx2:=HL.out.2.1
      go_wp2_with fail
      refine(IH.out x (deep+1) j _ (Kd.C_below HC.out (z2q HBr.out _)) (HT.out.below (z2q HBr.out _)) (by omega) HJ.out).mono ?_;rintro e w5 ⟨rfl,hb⟩
      have HQ0b:=Lib.hid (z9q hb (z9q (z2q (Below.refl _ _) _) HQ0.out))
      have HQ13b:=Lib.hid (z9q hb (z9q (z2q (Below.refl _ _) _) HQ13.out))
      have HB5:=Lib.hid (z5q (z2q HBr.out _) hb)
      have HZ5:=Lib.hid (Nat.lt_of_lt_of_le HZ.out (Nat.le_trans (z2q (Below.refl wr.heap.size wr) _).size hb.size))
      clear hb hq0 hq13 hz y0 y1 y2 y3 y4 y5 y6 y7 y8 y9 y10 y11 y12 y13
      by_cases cj:j<0
      ·rw [if_pos cj]at H
       obtain rfl:=Option.some.inj H
       have b9:decide (j<0)=true:=decide_eq_true cj
       clear H cj
       go_wp2_with fail
       go_ret
       exact⟨rfl,HB5.out⟩
      ·rw [if_neg cj]at H
       have b9:decide (j<0)=false:=decide_eq_false cj
       have HJ2:=Lib.hid (show 0≤j∧j≤1048577 from⟨by omega,gTree_le l hlen d x (deep+1) j hx0 hx1 HJ.out⟩)
       have HH:=Lib.hid H;clear H cj
       go_wp2_with fail
       go_roundw
       case rel=>exact⟨j,kk+1,rfl,by first|rfl|(rw [show wrap64 (kk+1)=kk+1 from by unfold wrap64;omega]),HJ2.out.1,HJ2.out.2,by omega,by have:=HL.out.1;omega,by rw [HM.out];exact HH,HQ0b,HQ13b,HB5,HZ5⟩
       case measure=>(have hw_:wrap64 (kk+1)=kk+1:=by unfold wrap64;omega);have:=HL.out.1;simp [intOf,hw_];omega
     have g3:(z0==3)=false:=beq_eq_false_iff_ne.mpr hg3
     by_cases hg4:z0=4
     ·subst hg4
      rw [if_neg (fun h=>h.2 ((((.inr (.inr (.inr (.inl rfl))))))))]at H
      obtain⟨j,hj,H⟩:=Option.bind_eq_some_iff.mp H
      have HJ:=Lib.hid hj;clear hj
      have hx2:=HL.out.2.1
      go_wp2_with fail
      refine(IH.out x (deep+1) j _ (Kd.C_below HC.out (z2q HBr.out _)) (HT.out.below (z2q HBr.out _)) (by omega) HJ.out).mono ?_;rintro e w5 ⟨rfl,hb⟩
      have HQ0b:=Lib.hid (z9q hb (z9q (z2q (Below.refl _ _) _) HQ0.out))
      have HQ13b:=Lib.hid (z9q hb (z9q (z2q (Below.refl _ _) _) HQ13.out))
      have HB5:=Lib.hid (z5q (z2q HBr.out _) hb)
      have HZ5:=Lib.hid (Nat.lt_of_lt_of_le HZ.out (Nat.le_trans (z2q (Below.refl wr.heap.size wr) _).size hb.size))
      clear hb hq0 hq13 hz y0 y1 y2 y3 y4 y5 y6 y7 y8 y9 y10 y11 y12 y13
      by_cases cj:j<0
      ·rw [if_pos cj]at H
       obtain rfl:=Option.some.inj H
       have b9:decide (j<0)=true:=decide_eq_true cj
       clear H cj
       go_wp2_with fail
       go_ret
       exact⟨rfl,HB5.out⟩
      ·rw [if_neg cj]at H
       have b9:decide (j<0)=false:=decide_eq_false cj
       have HJ2:=Lib.hid (show 0≤j∧j≤1048577 from⟨by omega,gTree_le l hlen d x (deep+1) j hx0 hx1 HJ.out⟩)
       have HH:=Lib.hid H;clear H cj
       go_wp2_with fail
       go_roundw
       case rel=>exact⟨j,kk+1,rfl,by first|rfl|(rw [show wrap64 (kk+1)=kk+1 from by unfold wrap64;omega]),HJ2.out.1,HJ2.out.2,by omega,by have:=HL.out.1;omega,by rw [HM.out];exact HH,HQ0b,HQ13b,HB5,HZ5⟩
       case measure=>(have hw_:wrap64 (kk+1)=kk+1:=by unfold wrap64;omega);have:=HL.out.1;simp [intOf,hw_];omega
     have g4:(z0==4)=false:=beq_eq_false_iff_ne.mpr hg4
     by_cases hg8:z0=8
     ·subst hg8
      by_cases hn:x+1<(l.length:Int)
      ·skip
       obtain⟨ad3,he3,k0,_⟩:=H8.out hn
       obtain rfl:ad=ad3:=by injection he3
       have k1:=z9q (z2q (Below.refl wr.heap.size wr) (.cells #[.int .i64 8,.string z1,.bool z2,.int .i64 z3,.int .i64 z4,.int .i64 z5,.int .i64 z6,.bool z7,.bool z8,.int .i64 z9,.int .i64 z10,.bool z11,.bool z12,.int .i64 z13] 67)) k0
       have p5:(0≤x+1)=True:=eq_true (by omega)
       have p6:(x+1<(l.length:Int))=True:=eq_true hn
       have b5:decide ((l.length:Int)≤x+1)=false:=decide_eq_false (by omega)
       clear he3
       by_cases hk8:(rd_T67 l (x+1)).f0=1
       ·rw [if_neg (fun h=>h.2 (.inr (.inr (.inr (.inr ⟨rfl,hn,hk8⟩)))))]at H
        have k8:((rd_T67 l (x+1)).f0 !=1)=false:=by rw [hk8];rfl
        clear hk8 hn
        obtain⟨j,hj,H⟩:=Option.bind_eq_some_iff.mp H
        have HJ:=Lib.hid hj;clear hj
        have hx2:=HL.out.2.1
        go_wp2_with fail
        refine(IH.out x (deep+1) j _ (Kd.C_below HC.out (z2q HBr.out _)) (HT.out.below (z2q HBr.out _)) (by omega) HJ.out).mono ?_;rintro e w5 ⟨rfl,hb⟩
        have HQ0b:=Lib.hid (z9q hb (z9q (z2q (Below.refl _ _) _) HQ0.out))
        have HQ13b:=Lib.hid (z9q hb (z9q (z2q (Below.refl _ _) _) HQ13.out))
        have HB5:=Lib.hid (z5q (z2q HBr.out _) hb)
        have HZ5:=Lib.hid (Nat.lt_of_lt_of_le HZ.out (Nat.le_trans (z2q (Below.refl wr.heap.size wr) _).size hb.size))
        clear hb hq0 hq13 hz y0 y1 y2 y3 y4 y5 y6 y7 y8 y9 y10 y11 y12 y13 k0 k1
        by_cases cj:j<0
        ·rw [if_pos cj]at H
         obtain rfl:=Option.some.inj H
         have b9:decide (j<0)=true:=decide_eq_true cj
         clear H cj
         go_wp2_with fail
         go_ret
         exact⟨rfl,HB5.out⟩
        ·rw [if_neg cj]at H
         have b9:decide (j<0)=false:=decide_eq_false cj
         have HJ2:=Lib.hid (show 0≤j∧j≤1048577 from⟨by omega,gTree_le l hlen d x (deep+1) j hx0 hx1 HJ.out⟩)
         have HH:=Lib.hid H;clear H cj
         go_wp2_with fail
         go_roundw
         case rel=>exact⟨j,kk+1,rfl,by first|rfl|(rw [show wrap64 (kk+1)=kk+1 from by unfold wrap64;omega]),HJ2.out.1,HJ2.out.2,by omega,by have:=HL.out.1;omega,by rw [HM.out];exact HH,HQ0b,HQ13b,HB5,HZ5⟩
         case measure=>(have hw_:wrap64 (kk+1)=kk+1:=by unfold wrap64;omega);have:=HL.out.1;simp [intOf,hw_];omega
       ·rw [if_pos ⟨rfl,fun h=>h.elim (by decide) fun h=>h.elim (by decide) fun h=>h.elim (by decide) fun h=>h.elim (by decide) fun h=>hk8 h.2.2⟩]at H
        have k8:((rd_T67 l (x+1)).f0 !=1)=true:=bne_iff_ne.mpr hk8
        clear hk8 hn
        have hx2:=HL.out.2.1
        obtain rfl:=Option.some.inj H
        clear H
        go_wp2_with fail
        go_ret
        exact⟨rfl,by repeat(first|exact HBr.out|apply z2q)⟩
      ·rw [if_pos ⟨rfl,fun h=>h.elim (by decide) fun h=>h.elim (by decide) fun h=>h.elim (by decide) fun h=>h.elim (by decide) fun h=>hn h.2.1⟩]at H
       have b5:decide ((l.length:Int)≤x+1)=true:=decide_eq_true (by omega)
       clear hn
       have hx2:=HL.out.2.1
       obtain rfl:=Option.some.inj H
       clear H
       go_wp2_with fail
       go_ret
       exact⟨rfl,by repeat(first|exact HBr.out|apply z2q)⟩
     rw [if_pos ⟨rfl,fun h=>h.elim hg1 fun h=>h.elim hg2 fun h=>h.elim hg3 fun h=>h.elim hg4 fun h=>hg8 h.1⟩]at H
     have g8:(z0==8)=false:=beq_eq_false_iff_ne.mpr hg8
     clear hg1 hg2 hg3 hg4 hg8
     obtain rfl:=Option.some.inj H
     clear H
     go_wp2_with fail
     go_ret
     exact⟨rfl,by repeat(first|exact HBr.out|apply z2q)⟩
    rw [if_neg (fun h=>hf12 h.1)]at H
    have f12:(n0==12)=false:=beq_eq_false_iff_ne.mpr hf12
    clear hf12
    obtain⟨j,hj,H⟩:=Option.bind_eq_some_iff.mp H
    have HJ:=Lib.hid hj;clear hj
    have hx2:=HL.out.2.1
    go_wp2_with fail
    refine(IH.out x (deep+1) j _ (Kd.C_below HC.out (z2q HBr.out _)) (HT.out.below (z2q HBr.out _)) (by omega) HJ.out).mono ?_;rintro e w5 ⟨rfl,hb⟩
    have HQ0b:=Lib.hid (z9q hb (z9q (z2q (Below.refl _ _) _) HQ0.out))
    have HQ13b:=Lib.hid (z9q hb (z9q (z2q (Below.refl _ _) _) HQ13.out))
    have HB5:=Lib.hid (z5q (z2q HBr.out _) hb)
    have HZ5:=Lib.hid (Nat.lt_of_lt_of_le HZ.out (Nat.le_trans (z2q (Below.refl wr.heap.size wr) _).size hb.size))
    clear hb hq0 hq13 hz y0 y1 y2 y3 y4 y5 y6 y7 y8 y9 y10 y11 y12 y13
    by_cases cj:j<0
    ·rw [if_pos cj]at H
     obtain rfl:=Option.some.inj H
     have b9:decide (j<0)=true:=decide_eq_true cj
     clear H cj
     go_wp2_with fail
     go_ret
     exact⟨rfl,HB5.out⟩
    ·rw [if_neg cj]at H
     have b9:decide (j<0)=false:=decide_eq_false cj
     have HJ2:=Lib.hid (show 0≤j∧j≤1048577 from⟨by omega,gTree_le l hlen d x (deep+1) j hx0 hx1 HJ.out⟩)
     have HH:=Lib.hid H;clear H cj
     go_wp2_with fail
     go_roundw
     case rel=>exact⟨j,kk+1,rfl,by first|rfl|(rw [show wrap64 (kk+1)=kk+1 from by unfold wrap64;omega]),HJ2.out.1,HJ2.out.2,by omega,by have:=HL.out.1;omega,by rw [HM.out];exact HH,HQ0b,HQ13b,HB5,HZ5⟩
     case measure=>(have hw_:wrap64 (kk+1)=kk+1:=by unfold wrap64;omega);have:=HL.out.1;simp [intOf,hw_];omega
   ·have b3:decide (kk<n13)=false:=decide_eq_false c1
    rw [show(n13-kk).toNat=0 from by omega,gKids]at H
    obtain rfl:=Option.some.inj H
    clear H c1
    go_wp2_with fail
    go_ret
    exact⟨rfl,HBr.out⟩

theorem impl_goodTree.calls (k:Nat) (A0:Option Addr) (c0:Nat) (l0:List S67) (a1 a2 r:Int) (w:World) (hr0:Kd.C k67 w A0 l0.length l0) (hc0:l0.length≤c0) (hT:Tab w) (h:impl_goodTree.f k l0 a1 a2=some r):
  Calls Tryz.prog 37 #[.slice A0 l0.length c0,.int .i64 a1,.int .i64 a2] w fun e w'=>e= .returned (.int .i64 r)∧Below w.heap.size w w':=by
 unfold impl_goodTree.f at h
 by_cases hh:0≤a2∧l0.length≤1048576
 ·rw [if_pos hh]at h
  exact gTree_calls l0 A0 c0 hc0 hh.2 60 a1 a2 r w hr0 hT hh.1 h
 ·rw [if_neg hh]at h;cases h



/-! ### impl_GoodFormula: function 12 -/

def impl_GoodFormula.f (k:Nat) (l0:List (S67)):Option (Bool):=if(l0.length:Int)≥1 then(if(l0.length:Int)≤300 then(if 0<(l0.length:Int)then(if((rd_T67 l0 0).f0)=13 then(some false)else((impl_goodTree.f k l0 0 1).bind fun t480=>(some (t480==(l0.length:Int)))))else(none))else(some false))else(some false)

set_option maxHeartbeats 8000000 in
set_option maxRecDepth 100000 in
theorem impl_GoodFormula.calls (k:Nat) (A0:Option Addr) (c0:Nat) (l0:List (S67)) (r:Bool) (w:World) (hr0:Kd.C k67 w A0 l0.length l0) (hc0:l0.length≤c0) (hT:Tab w) (h:impl_GoodFormula.f k l0=some r):
  Calls Tryz.prog 12 #[.slice A0 l0.length c0] w fun e w'=>e= .returned (.bool r)∧Below w.heap.size w w':=by
 have HR0:=Aside0.mk hr0
 have HC0:=Aside0.mk hc0
 clear hr0 hc0
 have HB:=Aside0.mk (Below.refl w.heap.size w)
 have H:(if(l0.length:Int)≥1 then(if(l0.length:Int)≤300 then(if 0<(l0.length:Int)then(if((rd_T67 l0 0).f0)=13 then(some false)else((impl_goodTree.f k l0 0 1).bind fun t480=>(some (t480==(l0.length:Int)))))else(none))else(some false))else(some false))=some r:=h
 clear h
 by_cases c2:(l0.length:Int)≥1
 ·rw [if_pos c2]at H
  have c2b0:decide (1≤(l0.length:Int))=true:=decide_eq_true c2
  have c2b1:decide (1≤l0.length)=true:=decide_eq_true (by omega)
  clear c2
  by_cases c3:(l0.length:Int)≤300
  ·rw [if_pos c3]at H
   have c3b0:decide ((l0.length:Int)≤300)=true:=decide_eq_true c3
   have c3b1:decide (l0.length≤300)=true:=decide_eq_true (by omega)
   clear c3
   by_cases c4:0<(l0.length:Int)
   ·rw [if_pos c4]at H
    have c4b0:decide (0<(l0.length:Int))=true:=decide_eq_true c4
    have c4b1:decide (0<l0.length)=true:=decide_eq_true (by omega)
    clear c4
    by_cases c5:((rd_T67 l0 0).f0)=13
    ·rw [if_pos c5]at H
     have c5b0:(((rd_T67 l0 0).f0)==13)=true:=beq_iff_eq.mpr c5
     have c5b1:(((rd_T67 l0 0).f0) !=13)=false:=bne_eq_false_iff_eq.mpr c5
     clear c5
     obtain rfl:=Option.some.inj H
     have p479:0≤(0:Int):=(by omega)
     have q479:0<(l0.length:Int):=of_decide_eq_true (by first|(with_reducible assumption)|assumption)
     obtain⟨ad479,e479,hx479_0,hx479_1,hx479_2,hx479_3,hx479_4,hx479_5,hx479_6,hx479_7,hx479_8,hx479_9,hx479_10,hx479_11,hx479_12,hx479_13⟩:=at_T67 HR0.out 0 p479 q479
     cases e479
     have qi479:(0<l0.length)=True:=eq_true (by omega)
     (try rw [show((0:Int)).toNat=0 from rfl]at hx479_0)
     (try rw [show 0*14=0 from rfl]at hx479_0)
     (try rw [Addr.add_zero']at hx479_0)
     (try rw [show((0:Int)).toNat=0 from rfl]at hx479_1)
     (try rw [show 0*14=0 from rfl]at hx479_1)
     (try rw [Addr.add_zero']at hx479_1)
     (try rw [show((0:Int)).toNat=0 from rfl]at hx479_2)
     (try rw [show 0*14=0 from rfl]at hx479_2)
     (try rw [Addr.add_zero']at hx479_2)
     (try rw [show((0:Int)).toNat=0 from rfl]at hx479_3)
     (try rw [show 0*14=0 from rfl]at hx479_3)
     (try rw [Addr.add_zero']at hx479_3)
     (try rw [show((0:Int)).toNat=0 from rfl]at hx479_4)
     (try rw [show 0*14=0 from rfl]at hx479_4)
     (try rw [Addr.add_zero']at hx479_4)
     (try rw [show((0:Int)).toNat=0 from rfl]at hx479_5)
     (try rw [show 0*14=0 from rfl]at hx479_5)
     (try rw [Addr.add_zero']at hx479_5)
     (try rw [show((0:Int)).toNat=0 from rfl]at hx479_6)
     (try rw [show 0*14=0 from rfl]at hx479_6)
     (try rw [Addr.add_zero']at hx479_6)
     (try rw [show((0:Int)).toNat=0 from rfl]at hx479_7)
     (try rw [show 0*14=0 from rfl]at hx479_7)
     (try rw [Addr.add_zero']at hx479_7)
     (try rw [show((0:Int)).toNat=0 from rfl]at hx479_8)
     (try rw [show 0*14=0 from rfl]at hx479_8)
     (try rw [Addr.add_zero']at hx479_8)
     (try rw [show((0:Int)).toNat=0 from rfl]at hx479_9)
     (try rw [show 0*14=0 from rfl]at hx479_9)
     (try rw [Addr.add_zero']at hx479_9)
     (try rw [show((0:Int)).toNat=0 from rfl]at hx479_10)
     (try rw [show 0*14=0 from rfl]at hx479_10)
     (try rw [Addr.add_zero']at hx479_10)
     (try rw [show((0:Int)).toNat=0 from rfl]at hx479_11)
     (try rw [show 0*14=0 from rfl]at hx479_11)
     (try rw [Addr.add_zero']at hx479_11)
     (try rw [show((0:Int)).toNat=0 from rfl]at hx479_12)
     (try rw [show 0*14=0 from rfl]at hx479_12)
     (try rw [Addr.add_zero']at hx479_12)
     (try rw [show((0:Int)).toNat=0 from rfl]at hx479_13)
     (try rw [show 0*14=0 from rfl]at hx479_13)
     (try rw [Addr.add_zero']at hx479_13)
     replace p479:=eq_true p479
     replace q479:=eq_true q479
     go_enter Tryz.func12,Tryz.ntmps12
     go_wp2
     go_ret
     exact⟨by first|rfl|(simp [errW_none,errW_some]<;>rfl)|(simp [*,errW_none,errW_some]<;>rfl),by repeat(first|(with_reducible first|exact HB.out|apply z2q|apply z3q|apply z4q)|exact HB.out)⟩
    ·rw [if_neg c5]at H
     have c5b0:(((rd_T67 l0 0).f0)==13)=false:=beq_eq_false_iff_ne.mpr c5
     have c5b1:(((rd_T67 l0 0).f0) !=13)=true:=bne_iff_ne.mpr c5
     replace H:=Option.bind_eq_some_iff.mp H
     obtain⟨t480,A60,H⟩:=H
     replace H:(some (t480==(l0.length:Int)))=some r:=H
     have A6:=Aside0.mk A60
     clear A60
     obtain rfl:=Option.some.inj H
     have p479:0≤(0:Int):=(by omega)
     have q479:0<(l0.length:Int):=of_decide_eq_true (by first|(with_reducible assumption)|assumption)
     obtain⟨ad479,e479,hx479_0,hx479_1,hx479_2,hx479_3,hx479_4,hx479_5,hx479_6,hx479_7,hx479_8,hx479_9,hx479_10,hx479_11,hx479_12,hx479_13⟩:=at_T67 HR0.out 0 p479 q479
     cases e479
     have qi479:(0<l0.length)=True:=eq_true (by omega)
     (try rw [show((0:Int)).toNat=0 from rfl]at hx479_0)
     (try rw [show 0*14=0 from rfl]at hx479_0)
     (try rw [Addr.add_zero']at hx479_0)
     (try rw [show((0:Int)).toNat=0 from rfl]at hx479_1)
     (try rw [show 0*14=0 from rfl]at hx479_1)
     (try rw [Addr.add_zero']at hx479_1)
     (try rw [show((0:Int)).toNat=0 from rfl]at hx479_2)
     (try rw [show 0*14=0 from rfl]at hx479_2)
     (try rw [Addr.add_zero']at hx479_2)
     (try rw [show((0:Int)).toNat=0 from rfl]at hx479_3)
     (try rw [show 0*14=0 from rfl]at hx479_3)
     (try rw [Addr.add_zero']at hx479_3)
     (try rw [show((0:Int)).toNat=0 from rfl]at hx479_4)
     (try rw [show 0*14=0 from rfl]at hx479_4)
     (try rw [Addr.add_zero']at hx479_4)
     (try rw [show((0:Int)).toNat=0 from rfl]at hx479_5)
     (try rw [show 0*14=0 from rfl]at hx479_5)
     (try rw [Addr.add_zero']at hx479_5)
     (try rw [show((0:Int)).toNat=0 from rfl]at hx479_6)
     (try rw [show 0*14=0 from rfl]at hx479_6)
     (try rw [Addr.add_zero']at hx479_6)
     (try rw [show((0:Int)).toNat=0 from rfl]at hx479_7)
     (try rw [show 0*14=0 from rfl]at hx479_7)
     (try rw [Addr.add_zero']at hx479_7)
     (try rw [show((0:Int)).toNat=0 from rfl]at hx479_8)
     (try rw [show 0*14=0 from rfl]at hx479_8)
     (try rw [Addr.add_zero']at hx479_8)
     (try rw [show((0:Int)).toNat=0 from rfl]at hx479_9)
     (try rw [show 0*14=0 from rfl]at hx479_9)
     (try rw [Addr.add_zero']at hx479_9)
     (try rw [show((0:Int)).toNat=0 from rfl]at hx479_10)
     (try rw [show 0*14=0 from rfl]at hx479_10)
     (try rw [Addr.add_zero']at hx479_10)
     (try rw [show((0:Int)).toNat=0 from rfl]at hx479_11)
     (try rw [show 0*14=0 from rfl]at hx479_11)
     (try rw [Addr.add_zero']at hx479_11)
     (try rw [show((0:Int)).toNat=0 from rfl]at hx479_12)
     (try rw [show 0*14=0 from rfl]at hx479_12)
     (try rw [Addr.add_zero']at hx479_12)
     (try rw [show((0:Int)).toNat=0 from rfl]at hx479_13)
     (try rw [show 0*14=0 from rfl]at hx479_13)
     (try rw [Addr.add_zero']at hx479_13)
     replace p479:=eq_true p479
     replace q479:=eq_true q479
     go_enter Tryz.func12,Tryz.ntmps12
     go_wp2_with (first|(go_at_call 37;(with_reducible refine(impl_goodTree.calls k _ _ l0 0 1 t480 _ ?side1 ?side2 (hT.below ib) A6.out).mono ?_);(case side1=>repeat(first|exact HR0.out|(with_reducible refine Kd.C_alloc ?_ _)|(with_reducible refine Kd.C_drewN ?_ _)|(with_reducible refine Kd.C_drew ?_)));(case side2=>exact HC0.out);rintro e w7 ⟨rfl,hb⟩;have n0_:=Aside0.mk (z5q (ibh HB.out) hb);clear HB;have HB:=n0_;clear n0_;(try clear hb);(try clear hb2);(try clear hk);(try clear hi)))
     go_ret
     exact⟨by first|rfl|(simp [errW_none,errW_some]<;>rfl)|(simp [*,errW_none,errW_some]<;>rfl),by repeat(first|(with_reducible first|exact HB.out|apply z2q|apply z3q|apply z4q)|exact HB.out)⟩
   ·rw [if_neg c4]at H
    exact absurd H (by simp)
  ·rw [if_neg c3]at H
   have c3b0:decide ((l0.length:Int)≤300)=false:=decide_eq_false c3
   have c3b1:decide (l0.length≤300)=false:=decide_eq_false (by omega)
   clear c3
   obtain rfl:=Option.some.inj H
   go_enter Tryz.func12,Tryz.ntmps12
   go_wp2
   go_ret
   exact⟨by first|rfl|(simp [errW_none,errW_some]<;>rfl)|(simp [*,errW_none,errW_some]<;>rfl),by repeat(first|(with_reducible first|exact HB.out|apply z2q|apply z3q|apply z4q)|exact HB.out)⟩
 ·rw [if_neg c2]at H
  have c2b0:decide (1≤(l0.length:Int))=false:=decide_eq_false c2
  have c2b1:decide (1≤l0.length)=false:=decide_eq_false (by omega)
  clear c2
  obtain rfl:=Option.some.inj H
  go_enter Tryz.func12,Tryz.ntmps12
  go_wp2
  go_ret
  exact⟨by first|rfl|(simp [errW_none,errW_some]<;>rfl)|(simp [*,errW_none,errW_some]<;>rfl),by repeat(first|(with_reducible first|exact HB.out|apply z2q|apply z3q|apply z4q)|exact HB.out)⟩



/-! ### impl_UsedNames: function 15 -/
/- over impl_GoodFormula.f impl_capitals.f -/

/-! a map from texts to whole numbers: which texts it holds as 1 -/

def inB (S:List ByteArray) (x:ByteArray):Bool:=S.any fun y=>y.data.toList==x.data.toList

def HeldM (P:Program) (kt et:TypeId) (w:World) (b:Nat) (S:List ByteArray):Prop:=
 ∃ (n:Nat) (D:DataW Nat),n≤S.length∧w.ownsMap P kt (plainElem P et) b n D∧Maps.IsMap D∧∀ x:ByteArray,x.size≤maxLen→D.atKey (.string x.data.toList) (.lit (.int .i64 0))= .lit (.int .i64 (if inB S x=true then 1 else 0))

theorem held_made (P:Program) (kt et:TypeId) (w:World):HeldM P kt et (w.alloc (.map #[] 0)) w.heap.size []:=
 ⟨0,.map [],Nat.le_refl _,World.ownsMap_made w P kt _,Maps.isMap_empty,fun x _=>by simp [DataW.atKey,inB]⟩

theorem HeldM.kept {P:Program} {kt et:TypeId} {w w':World} {b:Nat} {S:List ByteArray} (h:HeldM P kt et w b S) {row:Option Nat} (hg:w.grownBy w' row) (hne:some b≠row):HeldM P kt et w' b S:=by
 obtain⟨n,D,h1,h2,h3,h4⟩:=h
 exact⟨n,D,h1,h2.kept hg hne,h3,h4⟩

theorem HeldM.below {P:Program} {kt et:TypeId} {w w':World} {b:Nat} {S:List ByteArray} (h:HeldM P kt et w b S) (hb:Below w.heap.size w w'):HeldM P kt et w' b S:=h.kept (grown_of_below hb none) (by simp)

theorem HeldM.lt {P:Program} {kt et:TypeId} {w:World} {b:Nat} {S:List ByteArray} (h:HeldM P kt et w b S):b<w.heap.size:=by
 obtain⟨n,D,h1,h2,h3,h4⟩:=h
 exact h2.lt

theorem HeldM.look {P:Program} {kt et mt:TypeId} {w:World} {b:Nat} {S:List ByteArray} (h:HeldM P kt et w b S) (hk:P.underlying kt=some .string) (he:P.underlying et=some (.int .i64)) (hm:P.underlying mt=some (.map kt et))
  (hz:(zeroValue et).run P w= .ok (.int .i64 0) w) {x:ByteArray} (hx:x.size≤maxLen):(Instr.lookup mt (.map (some b)) (.string x) false).run P w= .ok (.int .i64 (if inB S x=true then 1 else 0)) w:=by
 obtain⟨n,D,h1,h2,h3,h4⟩:=h
 obtain⟨v,ps,hrun,hv⟩:=h2.lookup (Maps.string_keyed hk) hm hz (plainElem_int he (a:=0) (by decide)) (WideMaps.keyOf_string_mk hk hx)
 rw [h4 x hx]at hv
 have hv2:plainElem P et v=some (.lit (.int .i64 (if inB S x=true then 1 else 0)),ps):=hv
 have:v= .int .i64 (if inB S x=true then 1 else 0):=by
  unfold plainElem at hv2
  rw [he]at hv2
  split at hv2
  ·rename_i h1;cases h1
  ·rename_i h1
   simp at hv2;obtain⟨⟨e1,_⟩,⟨e2,e3⟩,_⟩:=hv2;rw [e1,e2,e3]
  ·rename_i h1;cases h1
  ·cases hv2
 rw [hrun,this]

theorem HeldM.put {P:Program} {kt et mt:TypeId} {w:World} {b:Nat} {S:List ByteArray} (h:HeldM P kt et w b S) (hk:P.underlying kt=some .string) (he:P.underlying et=some (.int .i64)) (hm:P.underlying mt=some (.map kt et))
  (hn:S.length<maxLen) {x:ByteArray} (hx:x.size≤maxLen):
  ∃ w',(Instr.mapUpdate mt (.map (some b)) (.string x) (.int .i64 1)).run P w= .ok () w'∧HeldM P kt et w' b (S ++ [x])∧w.grownBy w' (some b):=by
 obtain⟨n,D,h1,h2,h3,h4⟩:=h
 obtain⟨w',hrun,hown,hg⟩:=h2.update (Maps.string_keyed hk) hm (by omega) (WideMaps.keyOf_string_mk hk hx) (plainElem_int he (a:=1) (by decide))
 refine⟨w',hrun,⟨n+1,_,by simp;omega,hown,h3.put _ _,fun y hy=> ?_⟩,hg⟩
 by_cases e:y.data.toList=x.data.toList
 ·rw [e,Maps.atKey_put_same h3 (by simp [WideAt.IsKeyLit])]
  rw [show inB (S ++ [x]) y=true by unfold inB;rw [List.any_append];simp [e]];rfl
 ·rw [Maps.atKey_put_other (by simpa using e),h4 y hy]
  rw [show inB (S ++ [x]) y=inB S y by unfold inB;rw [List.any_append];simp only [List.any_cons,List.any_nil,Bool.or_false];rw [show(x.data.toList==y.data.toList)=false from beq_eq_false_iff_ne.mpr (fun h=>e h.symm),Bool.or_false]]


/-- The names in a formula, each once, behind those that are known. -/
def usedL:List S67→List ByteArray→List ByteArray
 | [],out=>out
 |n:: l,out=>if n.f0=7∧inB out (upS n.f1)=false then usedL l (out ++ [upS n.f1])else usedL l out

def impl_UsedNames.f (l0:List (S67)):Option (List ByteArray):=if l0.length≤1048576∧l0.all (fun x=>decide (x.f1.size≤1048576))=true then(impl_GoodFormula.f 0 l0).bind fun g=>some (if g=true then usedL l0 []else [])else none

theorem upS_len (s:ByteArray):(upS s).size=s.size:=by unfold upS;rw [strOfNums_size];simp

set_option maxHeartbeats 16000000 in
set_option maxRecDepth 100000 in
theorem impl_UsedNames.calls (A0:Option Addr) (c0:Nat) (l0:List (S67)) (r:List ByteArray) (w:World) (hr0:Kd.C k67 w A0 l0.length l0) (hc0:l0.length≤c0) (hT:Tab w) (h:impl_UsedNames.f l0=some r):
  Calls Tryz.prog 15 #[.slice A0 l0.length c0] w fun e w'=>∃ v0_:Value,e= .returned (v0_)∧Kd.R Kd.string 9 w' w.heap.size (fun _=>True) v0_ r∧Below w.heap.size w w':=by
 unfold impl_UsedNames.f at h
 by_cases hh:l0.length≤1048576∧l0.all (fun x=>decide (x.f1.size≤1048576))=true
 ·rw [if_pos hh]at h
  obtain⟨g,hg,h⟩:=Option.bind_eq_some_iff.mp h
  replace h:=Option.some.inj h
  have hall:∀ x∈l0,x.f1.size≤1048576:=fun x hx=>of_decide_eq_true (List.all_eq_true.mp hh.2 x hx)
  have hlen:=hh.1
  have HALL:=Lib.hid hall;have HR:=Lib.hid hr0;have HC:=Lib.hid hc0;have HT:=Lib.hid hT;have HG:=Lib.hid hg
  clear hh hall hr0 hc0 hT hg
  cases g with
  |false=>
   rw [if_neg (by decide)]at h
   subst h
   go_enter Tryz.func15,Tryz.ntmps15
   go_wp2_with fail
   refine(impl_GoodFormula.calls _ _ _ _ _ _ HR.out HC.out HT.out HG.out).mono ?_;rintro e w2 ⟨rfl,hb⟩
   have HB2:=Lib.hid hb;clear hb
   go_wp2_with fail
   go_ret
   exact⟨_,rfl,Kd.R_nil _ _ _ _ _,HB2.out⟩
  |true=>
   rw [if_pos rfl]at h
   have H0:=Lib.hid h;clear h
   have hmm:=@run_makeMap Tryz.prog
   go_enter Tryz.func15,Tryz.ntmps15
   go_wp2_with fail
   refine(impl_GoodFormula.calls _ _ _ _ _ _ HR.out HC.out HT.out HG.out).mono ?_;rintro e w2 ⟨rfl,hb⟩
   have HB2:=Lib.hid hb;clear hb
   go_wp2_with ((with_reducible refine z15q (N:=11) rfl ?_);refine Kd.R_lit Kd.string _ 9 ?hg (N:=11) ?hd (xs:=([]:List ByteArray)) (inner:= []) (ok:=fun _=>True) (okp:=fun _=>True) ?hr ?hp (fun _ hk=>hk) trivial (Below.refl _ _) (Nat.le_refl _) (by simp) ?_;(case hd=>rfl);(case hg=>rfl);(case hr=>first|(go_simp;done)|(go_simp;rfl));(case hp=>exact Reps.none _ _);intro v3 w3 ho hb hg_ hnew_;clear hg_ hnew_;have HB3:=Lib.hid (z5q HB2.out hb);have HO3:=Lib.hid (Kd.R_lower ho (z6q HB2.out));clear hb ho)
   go_loopw [3,15] (fun v v15 w'=>∃ (x:Int) (out:List ByteArray),v15= .int .i64 x∧0≤x∧x≤(l0.length:Int)∧Hid (usedL (l0.drop x.toNat) out=r)∧Hid (Kd.R Kd.string 9 w' w.heap.size (fun k=>k≠w3.heap.size) v out)∧Hid (HeldM Tryz.prog 9 3 w' w3.heap.size out)∧Hid (Below w.heap.size w w')∧Hid (w3.heap.size<w'.heap.size)∧Hid ((out.length:Int)≤x)) (fun _ v15 _=>l0.length-(intOf v15).toNat)
   case atStart=>exact⟨0, [],rfl,by omega,by omega,H0,Lib.hid (Kd.R_alloc (Kd.R_mono (Kd.R_bound HO3.out) (fun k hk=>Nat.ne_of_lt hk.2.2.1)) _),Lib.hid (held_made _ _ _ _),Lib.hid (z2q HB3.out _),Lib.hid (by simp),Lib.hid (by simp)⟩
   case round=>
    have hb3:w.heap.size≤w3.heap.size:=HB3.out.size
    clear H0 HO3 HG hmm
    obtain⟨x,out,rfl,hx0,hx1,HU,HO,HM,HBr,HZ,HL⟩:=hrel
    by_cases c1:x<(l0.length:Int)
    ·have hCr:=Kd.C_below HR.out HBr.out
     obtain⟨ad,rfl,y0,y1,y2,y3,y4,y5,y6,y7,y8,y9,y10,y11,y12,y13⟩:=at_T67 hCr x hx0 c1
     have p1:(0≤x)=True:=eq_true hx0
     have p2:(x<(l0.length:Int))=True:=eq_true c1
     have b1:decide (x<(l0.length:Int))=true:=decide_eq_true c1
     have hx2:x≤1048576:=by omega
     have hmem:rd_T67 l0 x∈l0:=by unfold rd_T67;rw [List.getD_eq_getElem?_getD,List.getElem?_eq_getElem (by omega:x.toNat<l0.length)];exact List.getElem_mem _
     have hsz:=HALL.out _ hmem
     have hdrop:l0.drop x.toNat=rd_T67 l0 x:: l0.drop (x+1).toNat:=by
      rw [show(x+1).toNat=x.toNat+1 from by omega,List.drop_eq_getElem_cons (by omega:x.toNat<l0.length)];congr 1;unfold rd_T67;rw [List.getD_eq_getElem?_getD,List.getElem?_eq_getElem (by omega:x.toNat<l0.length)];rfl
     have hu:=HU.out
     rw [hdrop,usedL]at hu
     have hcap:impl_capitals.f (rd_T67 l0 x).f1=some (upS (rd_T67 l0 x).f1):=by unfold impl_capitals.f;rw [if_pos hsz]
     have hup:(upS (rd_T67 l0 x).f1).size≤1048576:=by rw [upS_len];exact hsz
     have HCAP:=Lib.hid hcap;have HX:=Lib.hid (show x<(l0.length:Int)from c1);have HLEN:=Lib.hid hlen
     clear hCr hmem hdrop hcap c1 HU hsz
     generalize rd_T67 l0 x=X at *
     obtain⟨n0,n1,⟨n2,n3,n4⟩,⟨n5,n6,n7,n8⟩,⟨n9,n10,n11,n12⟩,n13⟩:=X
     simp only at y0 y1 y2 y3 y4 y5 y6 y7 y8 y9 y10 y11 y12 y13 hu HCAP hup
     have HUP:=Lib.hid hup;clear hup
     generalize upS n1=cn at *
     obtain⟨Ao,co,rfl⟩:=Kd.R_slice HO.out
     have HUU:=Lib.hid hu;clear hu
     go_wp2_with fail
     refine(impl_capitals.calls _ _ _ HCAP.out).mono ?_;rintro e w5 ⟨rfl,hb⟩
     obtain⟨hc5,hf5⟩:=bcell hb
     have hb5:Below wr.heap.size wr w5:=z5q (z2q (Below.refl _ _) _) hb
     have HB5:=Lib.hid (z5q HBr.out hb5);have HO5:=Lib.hid (Kd.R_below HO.out hb5);have HM5:=Lib.hid (HM.out.below hb5)
     have HZ5:=Lib.hid (Nat.lt_of_lt_of_le HZ.out hb5.size)
     clear hb hb5 y0 y1 y2 y3 y4 y5 y6 y7 y8 y9 y10 y11 y12 y13
     have hlook:=HM5.out.look Tryz.underlying9 Tryz.underlying3 Tryz.underlying78 (by kernel_rfl) (x:=cn) (by have:=HUP.out;unfold maxLen;omega)
     by_cases k7:n0=7
     ·have f7:(n0==7)=true:=beq_iff_eq.mpr k7
      cases hin:inB out cn
      ·rw [hin,if_neg (by decide)]at hlook
       have hU2:=HUU.out
       rw [if_pos ⟨k7,hin⟩]at hU2
       have HU2:=Lib.hid hU2;clear hU2 hin k7
       obtain⟨w6,hrun,hM6,hg6⟩:=HM5.out.put Tryz.underlying9 Tryz.underlying3 Tryz.underlying78 (by have:=HL.out;unfold maxLen;omega) (x:=cn) (by have:=HUP.out;unfold maxLen;omega)
       have HB6:=Lib.hid (pw_below_grown HB5.out (some w3.heap.size) HB5.out.size hg6 (fun k hk=>by injection hk with hk;subst hk;exact hb3))
       have HO6:=Lib.hid (Kd.R_grown HO5.out hg6 (fun k hk e=>hk (by injection e)))
       have HM6:=Lib.hid hM6
       have HZ6:=Lib.hid (Nat.lt_of_lt_of_le HZ5.out hg6.size)
       clear hM6 hg6
       go_wp2_with ((with_reducible refine gate_builtin (b:= .append) (xs:=#[.tmp 33,.tmp 35]) rfl ?_);at_builtin;refine Kd.R_append Kd.string (w0:=w) w.heap.size rfl (.tmp 33) (.tmp 35) 29 9 (.string ⟨#[]⟩) 16 rfl Tryz.underlying29 info9 rfl (by decide) (by omega) (.slice Ao out.length co) out cn [.string cn] (fun k=>k≠w3.heap.size) (fun _=>False) rfl rfl ?aP (fun _ hk=>hk.elim) ?aF ?aO ?aB ?aS ?aL ?_;(case aP=>exact rfl);(case aB=>exact HB6.out);(case aF=>exact(fun k hk=>by have:=HZ6.out;intro e;subst e;omega));(case aO=>exact HO6.out);(case aS=>exact HB6.out.size);(case aL=>have:=HL.out;omega);intro v7 w7 ho hb hg hat;have HO7:=Lib.hid ho;have HB7:=Lib.hid hb;have HM7:=Lib.hid (HM6.out.kept hg (fun e=>HO6.out.1 _ e.symm rfl));have HZ7:=Lib.hid (Nat.lt_of_lt_of_le HZ6.out hg.size);clear ho hb hg hat)
       go_roundw
       case rel=>exact⟨x+1,out ++ [cn],by first|rfl|(rw [show wrap64 (x+1)=x+1 from by unfold wrap64;omega]),by omega,by have:=HX.out;omega,HU2,HO7,HM7,HB7,HZ7,Lib.hid (by have:=HL.out;simp;omega)⟩
       case measure=>(have hw_:wrap64 (x+1)=x+1:=by unfold wrap64;omega);have:=HX.out;simp [intOf,hw_];omega
      ·rw [hin,if_pos rfl]at hlook
       have hU2:=HUU.out
       rw [if_neg (fun h=>by rw [hin]at h;exact absurd h.2 (by decide))]at hU2
       have HU2:=Lib.hid hU2;clear hU2 hin k7
       go_wp2_with fail
       go_roundw
       case rel=>exact⟨x+1,out,by first|rfl|(rw [show wrap64 (x+1)=x+1 from by unfold wrap64;omega]),by omega,by have:=HX.out;omega,HU2,HO5,HM5,HB5,HZ5,Lib.hid (by have:=HL.out;omega)⟩
       case measure=>(have hw_:wrap64 (x+1)=x+1:=by unfold wrap64;omega);have:=HX.out;simp [intOf,hw_];omega
     ·have f7:(n0==7)=false:=beq_eq_false_iff_ne.mpr k7
      have hU2:=HUU.out
      rw [if_neg (fun h=>k7 h.1)]at hU2
      have HU2:=Lib.hid hU2;clear hU2 k7 hlook
      go_wp2_with fail
      go_roundw
      case rel=>exact⟨x+1,out,by first|rfl|(rw [show wrap64 (x+1)=x+1 from by unfold wrap64;omega]),by omega,by have:=HX.out;omega,HU2,HO5,HM5,HB5,HZ5,Lib.hid (by have:=HL.out;omega)⟩
      case measure=>(have hw_:wrap64 (x+1)=x+1:=by unfold wrap64;omega);have:=HX.out;simp [intOf,hw_];omega
    ·have b1:decide (x<(l0.length:Int))=false:=decide_eq_false c1
     have hu:=HU.out
     rw [List.drop_of_length_le (by omega),usedL]at hu
     have HUU:=Lib.hid hu;clear hu c1
     go_wp2_with fail
     go_ret
     exact⟨_,rfl,by rw [←HUU.out];exact Kd.R_mono HO.out (fun _ _=>trivial),HBr.out⟩
 ·rw [if_neg hh]at h;cases h




/-! ### laws_eqStringS: function 16 -/

def laws_eqStringS.l0:Nat→List ByteArray→List ByteArray→Int→Option (Bool)
 |0,_,_,_=>none
 |k+1,x0,x1,x5=>if x5<(x0.length:Int)then(if 0≤x5 then(if x5<(x1.length:Int)then(if(rdOf ByteArray.empty x0 x5).toList=(rdOf ByteArray.empty x1 x5).toList then(laws_eqStringS.l0 k x0 x1 (wrap64 (x5+1)))else(some false))else(none))else(none))else(some true)

def laws_eqStringS.f (k:Nat) (l0:List ByteArray) (l1:List ByteArray):Option (Bool):=if(l0.length:Int)=(l1.length:Int)then(laws_eqStringS.l0 k l0 l1 0)else(some false)

set_option maxHeartbeats 8000000 in
set_option maxRecDepth 100000 in
theorem laws_eqStringS.calls (k:Nat) (A0:Option Addr) (c0:Nat) (l0:List ByteArray) (A1:Option Addr) (c1:Nat) (l1:List ByteArray) (r:Bool) (w:World) (hr0:Kd.C Kd.string w A0 l0.length l0) (hc0:l0.length≤c0) (hr1:Kd.C Kd.string w A1 l1.length l1) (hc1:l1.length≤c1) (h:laws_eqStringS.f k l0 l1=some r):
  Calls Tryz.prog 16 #[.slice A0 l0.length c0,.slice A1 l1.length c1] w fun e w'=>e= .returned (.bool r)∧Drawn0 w w':=by
 have HR0:=Aside0.mk hr0
 have HC0:=Aside0.mk hc0
 clear hr0 hc0
 have HR1:=Aside0.mk hr1
 have HC1:=Aside0.mk hc1
 clear hr1 hc1
 have H:(if(l0.length:Int)=(l1.length:Int)then(laws_eqStringS.l0 k l0 l1 0)else(some false))=some r:=h
 clear h
 by_cases c3:(l0.length:Int)=(l1.length:Int)
 ·rw [if_pos c3]at H
  have c3b0:((l0.length:Int)==(l1.length:Int))=true:=beq_iff_eq.mpr c3
  have c3b1:((l0.length:Int) !=(l1.length:Int))=false:=bne_eq_false_iff_eq.mpr c3
  have c3b2:(l0.length==l1.length)=true:=by first|simpa using c3|(simp at c3 ⊢;omega)
  clear c3
  have H':=Aside0.mk H
  clear H
  go_enter Tryz.func16,Tryz.ntmps16
  go_wp2
  repeat(go_quiet (fail);try go_wp2)
  go_loopg [5] k (fun kq v5 w'=>∃ (x5_1:Int),v5= .int .i64 x5_1∧Aside0 (laws_eqStringS.l0 kq l0 l1 x5_1=some r)∧Aside0 (kq≤k)∧Drawn0 w w')
  case atStart=>exact⟨(0),(by first|rfl|(simp;done)|(simp [*];done)|(simp;unfold wrap64;omega)),H',⟨Nat.le_refl _⟩,by repeat(first|exact Drawn0.refl _|apply Drawn0.step)⟩
  case round=>
   clear H'
   try clear c1
   try clear p2
   try clear c3
   try clear c3b0
   try clear c3b1
   try clear c3b2
   obtain⟨x5_1,rfl,HA,HK1,⟨m1,rfl⟩⟩:=hrel
   cases gk with
   |zero=>exact absurd HA.out (by simp [laws_eqStringS.l0])
   |succ k1=>
    have H:=HA.out
    clear HA
    simp only [laws_eqStringS.l0]at H
    by_cases c4:x5_1<(l0.length:Int)
    ·rw [if_pos c4]at H
     have c4b0:decide (x5_1<(l0.length:Int))=true:=decide_eq_true c4
     clear c4
     by_cases c5:0≤x5_1
     ·rw [if_pos c5]at H
      have c5b0:decide (0≤x5_1)=true:=decide_eq_true c5
      clear c5
      by_cases c6:x5_1<(l1.length:Int)
      ·rw [if_pos c6]at H
       have c6b0:decide (x5_1<(l1.length:Int))=true:=decide_eq_true c6
       clear c6
       by_cases c7:(rdOf ByteArray.empty l0 x5_1).toList=(rdOf ByteArray.empty l1 x5_1).toList
       ·rw [if_pos c7]at H
        have c7b0:((rdOf ByteArray.empty l0 x5_1).toList==(rdOf ByteArray.empty l1 x5_1).toList)=true:=beq_iff_eq.mpr c7
        have c7b1:((rdOf ByteArray.empty l0 x5_1).toList !=(rdOf ByteArray.empty l1 x5_1).toList)=false:=bne_eq_false_iff_eq.mpr c7
        clear c7
        have H':=Aside0.mk H
        clear H
        have p484:0≤(x5_1:Int):=of_decide_eq_true (by first|(with_reducible assumption)|assumption)
        have q484:x5_1<(l0.length:Int):=of_decide_eq_true (by first|(with_reducible assumption)|assumption)
        obtain⟨ad484,e484,hx484_0⟩:=Kd.at_string HR0.out x5_1 p484 q484
        cases e484
        replace p484:=eq_true p484
        replace q484:=eq_true q484
        have p485:0≤(x5_1:Int):=of_decide_eq_true (by first|(with_reducible assumption)|assumption)
        have q485:x5_1<(l1.length:Int):=of_decide_eq_true (by first|(with_reducible assumption)|assumption)
        obtain⟨ad485,e485,hx485_0⟩:=Kd.at_string HR1.out x5_1 p485 q485
        cases e485
        replace p485:=eq_true p485
        replace q485:=eq_true q485
        go_wp2
        repeat(go_quiet (fail);try go_wp2)
        go_roundg k1
        case measure=>have:=HK1.out;omega
        case rel=>exact⟨(wrap64 (x5_1+1)),(by first|rfl|(simp;done)|(simp [*];done)|(simp;unfold wrap64;omega)),H',⟨by have:=HK1.out;omega⟩,by repeat(first|exact Drawn0.refl _|apply Drawn0.step)⟩
       ·rw [if_neg c7]at H
        have c7b0:((rdOf ByteArray.empty l0 x5_1).toList==(rdOf ByteArray.empty l1 x5_1).toList)=false:=beq_eq_false_iff_ne.mpr c7
        have c7b1:((rdOf ByteArray.empty l0 x5_1).toList !=(rdOf ByteArray.empty l1 x5_1).toList)=true:=bne_iff_ne.mpr c7
        obtain rfl:=Option.some.inj H
        have p484:0≤(x5_1:Int):=of_decide_eq_true (by first|(with_reducible assumption)|assumption)
        have q484:x5_1<(l0.length:Int):=of_decide_eq_true (by first|(with_reducible assumption)|assumption)
        obtain⟨ad484,e484,hx484_0⟩:=Kd.at_string HR0.out x5_1 p484 q484
        cases e484
        replace p484:=eq_true p484
        replace q484:=eq_true q484
        have p485:0≤(x5_1:Int):=of_decide_eq_true (by first|(with_reducible assumption)|assumption)
        have q485:x5_1<(l1.length:Int):=of_decide_eq_true (by first|(with_reducible assumption)|assumption)
        obtain⟨ad485,e485,hx485_0⟩:=Kd.at_string HR1.out x5_1 p485 q485
        cases e485
        replace p485:=eq_true p485
        replace q485:=eq_true q485
        go_wp2
        repeat(go_quiet (fail);try go_wp2)
        go_ret
        exact⟨by first|rfl|(simp;done)|(simp [*];done),by repeat(first|exact Drawn0.refl _|apply Drawn0.step)⟩
      ·rw [if_neg c6]at H
       exact absurd H (by simp)
     ·rw [if_neg c5]at H
      exact absurd H (by simp)
    ·rw [if_neg c4]at H
     have c4b0:decide (x5_1<(l0.length:Int))=false:=decide_eq_false c4
     clear c4
     obtain rfl:=Option.some.inj H
     go_wp2
     repeat(go_quiet (fail);try go_wp2)
     go_ret
     exact⟨by first|rfl|(simp;done)|(simp [*];done),by repeat(first|exact Drawn0.refl _|apply Drawn0.step)⟩
 ·rw [if_neg c3]at H
  have c3b0:((l0.length:Int)==(l1.length:Int))=false:=beq_eq_false_iff_ne.mpr c3
  have c3b1:((l0.length:Int) !=(l1.length:Int))=true:=bne_iff_ne.mpr c3
  have c3b2:(l0.length==l1.length)=false:=by first|simpa using c3|(simp at c3 ⊢;omega)
  obtain rfl:=Option.some.inj H
  go_enter Tryz.func16,Tryz.ntmps16
  go_wp2
  repeat(go_quiet (fail);try go_wp2)
  go_ret
  exact⟨by first|rfl|(simp;done)|(simp [*];done),by repeat(first|exact Drawn0.refl _|apply Drawn0.step)⟩



/-! ### laws_markText: function 42 -/

end Go.Proofs.YtegdpgpbdcediaaGreatDoor.PFnExactUsedNames
