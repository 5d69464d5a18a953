/- Functions of the program as Lean functions, and proofs that the Go code comes to their answers: for the law FnExactUsedNames; made out of the print by a program of mine (compact.py). No conditions but each theorem's own. -/
import Derived.Test.YtegdpgpbdcediaaGreatDoorMFnExactUsedNamesa0
import Derived.Test.YtegdpgpbdcediaaGreatDoorMFnExactUsedNamesa2
import Derived.Test.YtegdpgpbdcediaaGreatDoorMFnExactUsedNamesa3
import Derived.Test.YtegdpgpbdcediaaGreatDoorMFnExactUsedNamesa4
import Derived.Test.YtegdpgpbdcediaaGreatDoorMFnExactUsedNamesa6
import Derived.Test.YtegdpgpbdcediaaGreatDoorMFnExactUsedNamesa7
namespace Go.Proofs.YtegdpgpbdcediaaGreatDoor.PFnExactUsedNames
open List (map_toArray map_cons map_nil length_drop length_take set_cons_zero set_cons_succ setIfInBounds_toArray)
open Go.RowKit Go.Proofs.YtegdpgpbdcediaaGreatDoorW.PrintWords Go.Proofs.YtegdpgpbdcediaaGreatDoorW.PrintLast Go.Proofs.YtegdpgpbdcediaaGreatDoorW.PrintMore
attribute [local go_sem] max2_int min2_int max_two min_two max_three min_three max_four min_four   -- for this text's walks alone
set_option linter.unusedVariables false
set_option linter.unusedSimpArgs false

attribute [local go_sem high] eqA47 eqA65
set_option maxHeartbeats 16000000 in
set_option maxRecDepth 100000 in
theorem right_4 (k:Int) (t:ByteArray) (n:Bool) (d x r c:Int) (p q:Bool) (r2 c2:Int) (p2 q2:Bool) (m:Int) (A:Option Addr) (cp:Nat) (l:List S70) (a1:Bool) (w:World) (nm:Bool) (v:Int) (hm:m=(l.length:Int)) (R:Bool) (hR:((!(k==13) || a1) && nodeB nm (arB v t m && l.all constB) k t n d x r c p q r2 c2 p2 q2 m)=R) (hN:k=7∨k=11→spec_l4Name.f NK t=some nm) (hV:k=12→spec_l2Number.f NK t=some v) (hC:Kd.C k70 w A l.length l) (hcp:l.length≤cp) (ht:t.size≤1048576) (hk:k=4):
  Calls Tryz.prog 103 #[.agg #[.int .i64 k,.string t,.bool n,.int .i64 d,.int .i64 x,.int .i64 r,.int .i64 c,.bool p,.bool q,.int .i64 r2,.int .i64 c2,.bool p2,.bool q2,.int .i64 m,.slice A l.length cp],.bool a1] w fun e w'=>e= .returned (.bool R)∧Below w.heap.size w w':=by
 subst hm
 have hB:Below w.heap.size w (((w.alloc (.cells #[.int .i64 k,.string t,.bool n,.int .i64 d,.int .i64 x,.int .i64 r,.int .i64 c,.bool p,.bool q,.int .i64 r2,.int .i64 c2,.bool p2,.bool q2,.int .i64 (l.length:Int),.slice A l.length cp] 70)).alloc (.cells #[.int .i64 k,.string t,.bool n,.int .i64 d,.int .i64 x,.int .i64 r,.int .i64 c,.bool p,.bool q,.int .i64 r2,.int .i64 c2,.bool p2,.bool q2,.int .i64 (l.length:Int)] 67))):=z2q (z2q (Below.refl _ _) _) _
 have HB:=Lib.hid hB;clear hB
 have HR:=Lib.hid hR;clear hR
 have HN:=Lib.hid hN;have HV:=Lib.hid hV;have HT:=Lib.hid ht;clear hN hV
 have HC:=Lib.hid hC;have HCP:=Lib.hid hcp;clear hC hcp
 subst hk
 go_enter Tryz.func103,Tryz.ntmps103
 go_upto_region 5 with fail
 have HG:=Lib.hid (specBare_is 4 t n d x r c p q r2 c2 p2 q2 (l.length:Int))
 go_wp2_with fail
 refine(spec_l4Bare.calls _ _ _ _ _ _ _ _ _ _ _ _ _ _ _ _ HG.out).mono ?_;rintro e w2 ⟨rfl,hb⟩
 obtain⟨hc2,hf2⟩:=bcell hb
 have HB2:=Lib.hid (z5q HB.out hb)
 have hsz2:w.heap.size+1<w2.heap.size:=by have h_:=hb.size;simp at h_;omega
 clear hb
 clear HG
 by_cases hbare:(zD n d x && (zR r c p q && zR r2 c2 p2 q2))=false
 ·rw [hbare]
  obtain rfl:R=false:=by rw [←HR.out];simp only [nodeB_4,hbare,Bool.and_false,Bool.false_and,Bool.true_and,Bool.and_true,Bool.not_true,Bool.not_false,Bool.or_true,Bool.true_or,Bool.false_or,Bool.or_false];try rfl
  clear hbare
  go_wp2_with fail
  go_ret
  exact⟨rfl,HB2.out⟩
 replace hbare:=(Bool.not_eq_false _).mp hbare
 rw [hbare]
 by_cases hl:((l.length:Int)==0)=true
 ·skip
  obtain rfl:R=erB t:=by rw [←HR.out];simp only [nodeB_4,hl,hbare,Bool.and_false,Bool.false_and,Bool.true_and,Bool.and_true,Bool.not_true,Bool.not_false,Bool.or_true,Bool.true_or,Bool.false_or,Bool.or_false];try rfl
  have EH:=Lib.hid (show spec_l4Errors.f=some erL from rfl)
  have HI:=Lib.hid (specIn_is t erL (by decide))
  have hct:w2.cell? ⟨w.heap.size+1,1,none⟩=some (.string t):=by rw [hc2 _ _ (by simp)];simp [go_sem]
  go_wp2_with fail
  clear hc2 hf2
  first|go_region_held3 (fun w'=>w'.cell? ⟨w.heap.size+1,1,none⟩=some (.string t)∧Below w.heap.size w w')
    (first|(go_split_ands;refine⟨?_,?_⟩<;>first|assumption|exact z9q (by assumption) (by assumption)|exact z5q (by assumption) (by assumption)|exact z4q (by assumption)|exact HB2.out|exact z4q HB2.out|(simp;done)))
    (first|(go_at_call 114;refine(spec_l4Errors.calls _ _ EH.out).mono ?_;rintro e w3 ⟨v3,rfl,hR3,hb⟩;obtain⟨A3,c3,rfl,hle3,hC3⟩:=Kd.R_reads hR3;clear hR3)|(go_at_call 39;refine(spec_l4In.calls NK _ _ _ _ _ _ ?h1 ?h2 HI.out).mono ?_;(case h1=>first|exact hC3|exact Kd.C_below hC3 (z4q (Below.refl _ _)));(case h2=>exact hle3);rintro e w4 ⟨rfl,hd⟩;have hb:=Drawn0.below hd;clear hd))|fail
  all_goals go_split_ands
  all_goals go_wp2_with fail
  all_goals go_ret
  all_goals exact⟨rfl,by first|assumption|exact z4q (by assumption)|exact HB2.out|exact z4q HB2.out⟩
 ·replace hl:=Bool.eq_false_iff.mpr hl
  obtain rfl:R=false:=by rw [←HR.out];simp only [nodeB_4,hl,Bool.and_false,Bool.false_and,Bool.true_and,Bool.and_true,Bool.not_true,Bool.not_false,Bool.or_true,Bool.true_or,Bool.false_or,Bool.or_false];try rfl
  have hct:w2.cell? ⟨w.heap.size+1,1,none⟩=some (.string t):=by rw [hc2 _ _ (by simp)];simp [go_sem]
  go_wp2_with fail
  clear hc2 hf2
  go_quiet ((fail))
  all_goals go_wp2_with fail
  all_goals go_ret
  all_goals exact⟨rfl,by first|exact HB2.out|exact z4q HB2.out|exact z3q HB2.out _⟩

set_option maxHeartbeats 16000000 in
set_option maxRecDepth 100000 in
theorem right_7 (k:Int) (t:ByteArray) (n:Bool) (d x r c:Int) (p q:Bool) (r2 c2:Int) (p2 q2:Bool) (m:Int) (A:Option Addr) (cp:Nat) (l:List S70) (a1:Bool) (w:World) (nm:Bool) (v:Int) (hm:m=(l.length:Int)) (R:Bool) (hR:((!(k==13) || a1) && nodeB nm (arB v t m && l.all constB) k t n d x r c p q r2 c2 p2 q2 m)=R) (hN:k=7∨k=11→spec_l4Name.f NK t=some nm) (hV:k=12→spec_l2Number.f NK t=some v) (hC:Kd.C k70 w A l.length l) (hcp:l.length≤cp) (ht:t.size≤1048576) (hk:k=7):
  Calls Tryz.prog 103 #[.agg #[.int .i64 k,.string t,.bool n,.int .i64 d,.int .i64 x,.int .i64 r,.int .i64 c,.bool p,.bool q,.int .i64 r2,.int .i64 c2,.bool p2,.bool q2,.int .i64 m,.slice A l.length cp],.bool a1] w fun e w'=>e= .returned (.bool R)∧Below w.heap.size w w':=by
 subst hm
 have hB:Below w.heap.size w (((w.alloc (.cells #[.int .i64 k,.string t,.bool n,.int .i64 d,.int .i64 x,.int .i64 r,.int .i64 c,.bool p,.bool q,.int .i64 r2,.int .i64 c2,.bool p2,.bool q2,.int .i64 (l.length:Int),.slice A l.length cp] 70)).alloc (.cells #[.int .i64 k,.string t,.bool n,.int .i64 d,.int .i64 x,.int .i64 r,.int .i64 c,.bool p,.bool q,.int .i64 r2,.int .i64 c2,.bool p2,.bool q2,.int .i64 (l.length:Int)] 67))):=z2q (z2q (Below.refl _ _) _) _
 have HB:=Lib.hid hB;clear hB
 have HR:=Lib.hid hR;clear hR
 have HN:=Lib.hid hN;have HV:=Lib.hid hV;have HT:=Lib.hid ht;clear hN hV
 have HC:=Lib.hid hC;have HCP:=Lib.hid hcp;clear hC hcp
 subst hk
 go_enter Tryz.func103,Tryz.ntmps103
 go_upto_region 5 with fail
 have HG:=Lib.hid (specBare_is 7 t n d x r c p q r2 c2 p2 q2 (l.length:Int))
 go_wp2_with fail
 refine(spec_l4Bare.calls _ _ _ _ _ _ _ _ _ _ _ _ _ _ _ _ HG.out).mono ?_;rintro e w2 ⟨rfl,hb⟩
 obtain⟨hc2,hf2⟩:=bcell hb
 have HB2:=Lib.hid (z5q HB.out hb)
 have hsz2:w.heap.size+1<w2.heap.size:=by have h_:=hb.size;simp at h_;omega
 clear hb
 clear HG
 by_cases hbare:(zD n d x && (zR r c p q && zR r2 c2 p2 q2))=false
 ·rw [hbare]
  obtain rfl:R=false:=by rw [←HR.out];simp only [nodeB_7,hbare,Bool.and_false,Bool.false_and,Bool.true_and,Bool.and_true,Bool.not_true,Bool.not_false,Bool.or_true,Bool.true_or,Bool.false_or,Bool.or_false];try rfl
  clear hbare
  go_wp2_with fail
  go_ret
  exact⟨rfl,HB2.out⟩
 replace hbare:=(Bool.not_eq_false _).mp hbare
 rw [hbare]
 by_cases hl:((l.length:Int)==0)=true
 ·skip
  have HG:=Lib.hid (HN.out (by first|trivial|decide|simp))
  obtain rfl:R=nm:=by rw [←HR.out];simp only [nodeB_7,hl,hbare,Bool.and_false,Bool.false_and,Bool.true_and,Bool.and_true,Bool.not_true,Bool.not_false,Bool.or_true,Bool.true_or,Bool.false_or,Bool.or_false];try rfl
  go_wp2_with fail
  refine(spec_l4Name.calls _ _ _ _ HG.out).mono ?_;rintro e w3 ⟨rfl,hb⟩
  obtain⟨hc3,hf3⟩:=bcell hb
  have HB3:=Lib.hid (z5q HB2.out hb)
  have hsz3:w.heap.size+1<w3.heap.size:=by have h_:=hb.size;omega
  clear hb
  go_wp2_with fail
  go_ret
  exact⟨rfl,HB3.out⟩
 ·replace hl:=Bool.eq_false_iff.mpr hl
  obtain rfl:R=false:=by rw [←HR.out];simp only [nodeB_7,hl,Bool.and_false,Bool.false_and,Bool.true_and,Bool.and_true,Bool.not_true,Bool.not_false,Bool.or_true,Bool.true_or,Bool.false_or,Bool.or_false];try rfl
  go_wp2_with fail
  go_ret
  exact⟨rfl,HB2.out⟩

set_option maxHeartbeats 16000000 in
set_option maxRecDepth 100000 in
theorem right_13 (k:Int) (t:ByteArray) (n:Bool) (d x r c:Int) (p q:Bool) (r2 c2:Int) (p2 q2:Bool) (m:Int) (A:Option Addr) (cp:Nat) (l:List S70) (a1:Bool) (w:World) (nm:Bool) (v:Int) (hm:m=(l.length:Int)) (R:Bool) (hR:((!(k==13) || a1) && nodeB nm (arB v t m && l.all constB) k t n d x r c p q r2 c2 p2 q2 m)=R) (hN:k=7∨k=11→spec_l4Name.f NK t=some nm) (hV:k=12→spec_l2Number.f NK t=some v) (hC:Kd.C k70 w A l.length l) (hcp:l.length≤cp) (ht:t.size≤1048576) (hk:k=13):
  Calls Tryz.prog 103 #[.agg #[.int .i64 k,.string t,.bool n,.int .i64 d,.int .i64 x,.int .i64 r,.int .i64 c,.bool p,.bool q,.int .i64 r2,.int .i64 c2,.bool p2,.bool q2,.int .i64 m,.slice A l.length cp],.bool a1] w fun e w'=>e= .returned (.bool R)∧Below w.heap.size w w':=by
 subst hm
 have hB:Below w.heap.size w (((w.alloc (.cells #[.int .i64 k,.string t,.bool n,.int .i64 d,.int .i64 x,.int .i64 r,.int .i64 c,.bool p,.bool q,.int .i64 r2,.int .i64 c2,.bool p2,.bool q2,.int .i64 (l.length:Int),.slice A l.length cp] 70)).alloc (.cells #[.int .i64 k,.string t,.bool n,.int .i64 d,.int .i64 x,.int .i64 r,.int .i64 c,.bool p,.bool q,.int .i64 r2,.int .i64 c2,.bool p2,.bool q2,.int .i64 (l.length:Int)] 67))):=z2q (z2q (Below.refl _ _) _) _
 have HB:=Lib.hid hB;clear hB
 have HR:=Lib.hid hR;clear hR
 have HN:=Lib.hid hN;have HV:=Lib.hid hV;have HT:=Lib.hid ht;clear hN hV
 have HC:=Lib.hid hC;have HCP:=Lib.hid hcp;clear hC hcp
 subst hk
 go_enter Tryz.func103,Tryz.ntmps103
 go_upto_region 5 with fail
 have HG:=Lib.hid (specBare_is 13 t n d x r c p q r2 c2 p2 q2 (l.length:Int))
 go_wp2_with fail
 refine(spec_l4Bare.calls _ _ _ _ _ _ _ _ _ _ _ _ _ _ _ _ HG.out).mono ?_;rintro e w2 ⟨rfl,hb⟩
 obtain⟨hc2,hf2⟩:=bcell hb
 have HB2:=Lib.hid (z5q HB.out hb)
 have hsz2:w.heap.size+1<w2.heap.size:=by have h_:=hb.size;simp at h_;omega
 clear hb
 clear HG
 by_cases hbare:(zD n d x && (zR r c p q && zR r2 c2 p2 q2))=false
 ·rw [hbare]
  obtain rfl:R=false:=by rw [←HR.out];simp only [nodeB_13,hbare,Bool.and_false,Bool.false_and,Bool.true_and,Bool.and_true,Bool.not_true,Bool.not_false,Bool.or_true,Bool.true_or,Bool.false_or,Bool.or_false];try rfl
  clear hbare
  go_wp2_with fail
  go_ret
  exact⟨rfl,HB2.out⟩
 replace hbare:=(Bool.not_eq_false _).mp hbare
 rw [hbare]
 by_cases hl:((l.length:Int)==0)=true
 ·skip
  by_cases he:emp t=true
  ·skip
   obtain rfl:R=a1:=by rw [←HR.out];simp only [nodeB_13,hl,hbare,he,show((13:Int)==13)=true from rfl,Bool.and_false,Bool.false_and,Bool.true_and,Bool.and_true,Bool.not_true,Bool.not_false,Bool.or_true,Bool.true_or,Bool.false_or,Bool.or_false];try rfl
   have e2:(t.toList==([]:List UInt8))=true:=he
   have e3:t.toList.isEmpty=true:=by simpa [emp]using he
   have HE:=Lib.hid he
   clear he
   go_wp2_with fail
   go_ret
   exact⟨rfl,HB2.out⟩
  ·replace he:=Bool.eq_false_iff.mpr he
   obtain rfl:R=false:=by rw [←HR.out];simp only [nodeB_13,hl,hbare,he,Bool.and_false,Bool.false_and,Bool.true_and,Bool.and_true,Bool.not_true,Bool.not_false,Bool.or_true,Bool.true_or,Bool.false_or,Bool.or_false];try rfl
   have e2:(t.toList==([]:List UInt8))=false:=he
   have e3:t.toList.isEmpty=false:=by simpa [emp]using he
   have HE:=Lib.hid he
   clear he
   go_wp2_with fail
   go_ret
   exact⟨rfl,HB2.out⟩
 ·replace hl:=Bool.eq_false_iff.mpr hl
  obtain rfl:R=false:=by rw [←HR.out];simp only [nodeB_13,hl,Bool.and_false,Bool.false_and,Bool.true_and,Bool.and_true,Bool.not_true,Bool.not_false,Bool.or_true,Bool.true_or,Bool.false_or,Bool.or_false];try rfl
  go_wp2_with fail
  go_ret
  exact⟨rfl,HB2.out⟩

set_option maxHeartbeats 16000000 in
set_option maxRecDepth 100000 in
theorem right_8 (k:Int) (t:ByteArray) (n:Bool) (d x r c:Int) (p q:Bool) (r2 c2:Int) (p2 q2:Bool) (m:Int) (A:Option Addr) (cp:Nat) (l:List S70) (a1:Bool) (w:World) (nm:Bool) (v:Int) (hm:m=(l.length:Int)) (R:Bool) (hR:((!(k==13) || a1) && nodeB nm (arB v t m && l.all constB) k t n d x r c p q r2 c2 p2 q2 m)=R) (hN:k=7∨k=11→spec_l4Name.f NK t=some nm) (hV:k=12→spec_l2Number.f NK t=some v) (hC:Kd.C k70 w A l.length l) (hcp:l.length≤cp) (ht:t.size≤1048576) (hk:k=8):
  Calls Tryz.prog 103 #[.agg #[.int .i64 k,.string t,.bool n,.int .i64 d,.int .i64 x,.int .i64 r,.int .i64 c,.bool p,.bool q,.int .i64 r2,.int .i64 c2,.bool p2,.bool q2,.int .i64 m,.slice A l.length cp],.bool a1] w fun e w'=>e= .returned (.bool R)∧Below w.heap.size w w':=by
 subst hm
 have hB:Below w.heap.size w (((w.alloc (.cells #[.int .i64 k,.string t,.bool n,.int .i64 d,.int .i64 x,.int .i64 r,.int .i64 c,.bool p,.bool q,.int .i64 r2,.int .i64 c2,.bool p2,.bool q2,.int .i64 (l.length:Int),.slice A l.length cp] 70)).alloc (.cells #[.int .i64 k,.string t,.bool n,.int .i64 d,.int .i64 x,.int .i64 r,.int .i64 c,.bool p,.bool q,.int .i64 r2,.int .i64 c2,.bool p2,.bool q2,.int .i64 (l.length:Int)] 67))):=z2q (z2q (Below.refl _ _) _) _
 have HB:=Lib.hid hB;clear hB
 have HR:=Lib.hid hR;clear hR
 have HN:=Lib.hid hN;have HV:=Lib.hid hV;have HT:=Lib.hid ht;clear hN hV
 have HC:=Lib.hid hC;have HCP:=Lib.hid hcp;clear hC hcp
 subst hk
 go_enter Tryz.func103,Tryz.ntmps103
 go_upto_region 5 with fail
 have HG:=Lib.hid (specBare_is 8 t n d x r c p q r2 c2 p2 q2 (l.length:Int))
 go_wp2_with fail
 refine(spec_l4Bare.calls _ _ _ _ _ _ _ _ _ _ _ _ _ _ _ _ HG.out).mono ?_;rintro e w2 ⟨rfl,hb⟩
 obtain⟨hc2,hf2⟩:=bcell hb
 have HB2:=Lib.hid (z5q HB.out hb)
 have hsz2:w.heap.size+1<w2.heap.size:=by have h_:=hb.size;simp at h_;omega
 clear hb
 clear HG
 by_cases hbare:(zD n d x && (zR r c p q && zR r2 c2 p2 q2))=false
 ·rw [hbare]
  obtain rfl:R=false:=by rw [←HR.out];simp only [nodeB_8,hbare,Bool.and_false,Bool.false_and,Bool.true_and,Bool.and_true,Bool.not_true,Bool.not_false,Bool.or_true,Bool.true_or,Bool.false_or,Bool.or_false];try rfl
  clear hbare
  go_wp2_with fail
  go_ret
  exact⟨rfl,HB2.out⟩
 replace hbare:=(Bool.not_eq_false _).mp hbare
 rw [hbare]
 by_cases hl:((l.length:Int)==1)=true
 ·skip
  by_cases he:emp t=true
  ·skip
   obtain rfl:R=true:=by rw [←HR.out];simp only [nodeB_8,hl,hbare,he,Bool.and_false,Bool.false_and,Bool.true_and,Bool.and_true,Bool.not_true,Bool.not_false,Bool.or_true,Bool.true_or,Bool.false_or,Bool.or_false];try rfl
   have e2:(t.toList==([]:List UInt8))=true:=he
   have e3:t.toList.isEmpty=true:=by simpa [emp]using he
   have HE:=Lib.hid he
   clear he
   go_wp2_with fail
   go_ret
   exact⟨rfl,HB2.out⟩
  ·replace he:=Bool.eq_false_iff.mpr he
   obtain rfl:R=false:=by rw [←HR.out];simp only [nodeB_8,hl,hbare,he,Bool.and_false,Bool.false_and,Bool.true_and,Bool.and_true,Bool.not_true,Bool.not_false,Bool.or_true,Bool.true_or,Bool.false_or,Bool.or_false];try rfl
   have e2:(t.toList==([]:List UInt8))=false:=he
   have e3:t.toList.isEmpty=false:=by simpa [emp]using he
   have HE:=Lib.hid he
   clear he
   go_wp2_with fail
   go_ret
   exact⟨rfl,HB2.out⟩
 ·replace hl:=Bool.eq_false_iff.mpr hl
  obtain rfl:R=false:=by rw [←HR.out];simp only [nodeB_8,hl,Bool.and_false,Bool.false_and,Bool.true_and,Bool.and_true,Bool.not_true,Bool.not_false,Bool.or_true,Bool.true_or,Bool.false_or,Bool.or_false];try rfl
  go_wp2_with fail
  go_ret
  exact⟨rfl,HB2.out⟩

set_option maxHeartbeats 16000000 in
set_option maxRecDepth 100000 in
theorem right_9 (k:Int) (t:ByteArray) (n:Bool) (d x r c:Int) (p q:Bool) (r2 c2:Int) (p2 q2:Bool) (m:Int) (A:Option Addr) (cp:Nat) (l:List S70) (a1:Bool) (w:World) (nm:Bool) (v:Int) (hm:m=(l.length:Int)) (R:Bool) (hR:((!(k==13) || a1) && nodeB nm (arB v t m && l.all constB) k t n d x r c p q r2 c2 p2 q2 m)=R) (hN:k=7∨k=11→spec_l4Name.f NK t=some nm) (hV:k=12→spec_l2Number.f NK t=some v) (hC:Kd.C k70 w A l.length l) (hcp:l.length≤cp) (ht:t.size≤1048576) (hk:k=9):
  Calls Tryz.prog 103 #[.agg #[.int .i64 k,.string t,.bool n,.int .i64 d,.int .i64 x,.int .i64 r,.int .i64 c,.bool p,.bool q,.int .i64 r2,.int .i64 c2,.bool p2,.bool q2,.int .i64 m,.slice A l.length cp],.bool a1] w fun e w'=>e= .returned (.bool R)∧Below w.heap.size w w':=by
 subst hm
 have hB:Below w.heap.size w (((w.alloc (.cells #[.int .i64 k,.string t,.bool n,.int .i64 d,.int .i64 x,.int .i64 r,.int .i64 c,.bool p,.bool q,.int .i64 r2,.int .i64 c2,.bool p2,.bool q2,.int .i64 (l.length:Int),.slice A l.length cp] 70)).alloc (.cells #[.int .i64 k,.string t,.bool n,.int .i64 d,.int .i64 x,.int .i64 r,.int .i64 c,.bool p,.bool q,.int .i64 r2,.int .i64 c2,.bool p2,.bool q2,.int .i64 (l.length:Int)] 67))):=z2q (z2q (Below.refl _ _) _) _
 have HB:=Lib.hid hB;clear hB
 have HR:=Lib.hid hR;clear hR
 have HN:=Lib.hid hN;have HV:=Lib.hid hV;have HT:=Lib.hid ht;clear hN hV
 have HC:=Lib.hid hC;have HCP:=Lib.hid hcp;clear hC hcp
 subst hk
 go_enter Tryz.func103,Tryz.ntmps103
 go_upto_region 5 with fail
 have HG:=Lib.hid (specBare_is 9 t n d x r c p q r2 c2 p2 q2 (l.length:Int))
 go_wp2_with fail
 refine(spec_l4Bare.calls _ _ _ _ _ _ _ _ _ _ _ _ _ _ _ _ HG.out).mono ?_;rintro e w2 ⟨rfl,hb⟩
 obtain⟨hc2,hf2⟩:=bcell hb
 have HB2:=Lib.hid (z5q HB.out hb)
 have hsz2:w.heap.size+1<w2.heap.size:=by have h_:=hb.size;simp at h_;omega
 clear hb
 clear HG
 by_cases hbare:(zD n d x && (zR r c p q && zR r2 c2 p2 q2))=false
 ·rw [hbare]
  obtain rfl:R=false:=by rw [←HR.out];simp only [nodeB_9,hbare,Bool.and_false,Bool.false_and,Bool.true_and,Bool.and_true,Bool.not_true,Bool.not_false,Bool.or_true,Bool.true_or,Bool.false_or,Bool.or_false];try rfl
  clear hbare
  go_wp2_with fail
  go_ret
  exact⟨rfl,HB2.out⟩
 replace hbare:=(Bool.not_eq_false _).mp hbare
 rw [hbare]
 by_cases hl:((l.length:Int)==1)=true
 ·skip
  by_cases he:emp t=true
  ·skip
   obtain rfl:R=true:=by rw [←HR.out];simp only [nodeB_9,hl,hbare,he,Bool.and_false,Bool.false_and,Bool.true_and,Bool.and_true,Bool.not_true,Bool.not_false,Bool.or_true,Bool.true_or,Bool.false_or,Bool.or_false];try rfl
   have e2:(t.toList==([]:List UInt8))=true:=he
   have e3:t.toList.isEmpty=true:=by simpa [emp]using he
   have HE:=Lib.hid he
   clear he
   go_wp2_with fail
   go_ret
   exact⟨rfl,HB2.out⟩
  ·replace he:=Bool.eq_false_iff.mpr he
   obtain rfl:R=false:=by rw [←HR.out];simp only [nodeB_9,hl,hbare,he,Bool.and_false,Bool.false_and,Bool.true_and,Bool.and_true,Bool.not_true,Bool.not_false,Bool.or_true,Bool.true_or,Bool.false_or,Bool.or_false];try rfl
   have e2:(t.toList==([]:List UInt8))=false:=he
   have e3:t.toList.isEmpty=false:=by simpa [emp]using he
   have HE:=Lib.hid he
   clear he
   go_wp2_with fail
   go_ret
   exact⟨rfl,HB2.out⟩
 ·replace hl:=Bool.eq_false_iff.mpr hl
  obtain rfl:R=false:=by rw [←HR.out];simp only [nodeB_9,hl,Bool.and_false,Bool.false_and,Bool.true_and,Bool.and_true,Bool.not_true,Bool.not_false,Bool.or_true,Bool.true_or,Bool.false_or,Bool.or_false];try rfl
  go_wp2_with fail
  go_ret
  exact⟨rfl,HB2.out⟩

set_option maxHeartbeats 16000000 in
set_option maxRecDepth 100000 in
theorem right_10 (k:Int) (t:ByteArray) (n:Bool) (d x r c:Int) (p q:Bool) (r2 c2:Int) (p2 q2:Bool) (m:Int) (A:Option Addr) (cp:Nat) (l:List S70) (a1:Bool) (w:World) (nm:Bool) (v:Int) (hm:m=(l.length:Int)) (R:Bool) (hR:((!(k==13) || a1) && nodeB nm (arB v t m && l.all constB) k t n d x r c p q r2 c2 p2 q2 m)=R) (hN:k=7∨k=11→spec_l4Name.f NK t=some nm) (hV:k=12→spec_l2Number.f NK t=some v) (hC:Kd.C k70 w A l.length l) (hcp:l.length≤cp) (ht:t.size≤1048576) (hk:k=10):
  Calls Tryz.prog 103 #[.agg #[.int .i64 k,.string t,.bool n,.int .i64 d,.int .i64 x,.int .i64 r,.int .i64 c,.bool p,.bool q,.int .i64 r2,.int .i64 c2,.bool p2,.bool q2,.int .i64 m,.slice A l.length cp],.bool a1] w fun e w'=>e= .returned (.bool R)∧Below w.heap.size w w':=by
 subst hm
 have hB:Below w.heap.size w (((w.alloc (.cells #[.int .i64 k,.string t,.bool n,.int .i64 d,.int .i64 x,.int .i64 r,.int .i64 c,.bool p,.bool q,.int .i64 r2,.int .i64 c2,.bool p2,.bool q2,.int .i64 (l.length:Int),.slice A l.length cp] 70)).alloc (.cells #[.int .i64 k,.string t,.bool n,.int .i64 d,.int .i64 x,.int .i64 r,.int .i64 c,.bool p,.bool q,.int .i64 r2,.int .i64 c2,.bool p2,.bool q2,.int .i64 (l.length:Int)] 67))):=z2q (z2q (Below.refl _ _) _) _
 have HB:=Lib.hid hB;clear hB
 have HR:=Lib.hid hR;clear hR
 have HN:=Lib.hid hN;have HV:=Lib.hid hV;have HT:=Lib.hid ht;clear hN hV
 have HC:=Lib.hid hC;have HCP:=Lib.hid hcp;clear hC hcp
 subst hk
 go_enter Tryz.func103,Tryz.ntmps103
 go_upto_region 5 with fail
 have HG:=Lib.hid (specBare_is 10 t n d x r c p q r2 c2 p2 q2 (l.length:Int))
 go_wp2_with fail
 refine(spec_l4Bare.calls _ _ _ _ _ _ _ _ _ _ _ _ _ _ _ _ HG.out).mono ?_;rintro e w2 ⟨rfl,hb⟩
 obtain⟨hc2,hf2⟩:=bcell hb
 have HB2:=Lib.hid (z5q HB.out hb)
 have hsz2:w.heap.size+1<w2.heap.size:=by have h_:=hb.size;simp at h_;omega
 clear hb
 clear HG
 by_cases hbare:(zD n d x && (zR r c p q && zR r2 c2 p2 q2))=false
 ·rw [hbare]
  obtain rfl:R=false:=by rw [←HR.out];simp only [nodeB_10,hbare,Bool.and_false,Bool.false_and,Bool.true_and,Bool.and_true,Bool.not_true,Bool.not_false,Bool.or_true,Bool.true_or,Bool.false_or,Bool.or_false];try rfl
  clear hbare
  go_wp2_with fail
  go_ret
  exact⟨rfl,HB2.out⟩
 replace hbare:=(Bool.not_eq_false _).mp hbare
 rw [hbare]
 by_cases hl:((l.length:Int)==2)=true
 ·skip
  obtain rfl:R=opB t:=by rw [←HR.out];simp only [nodeB_10,hl,hbare,Bool.and_false,Bool.false_and,Bool.true_and,Bool.and_true,Bool.not_true,Bool.not_false,Bool.or_true,Bool.true_or,Bool.false_or,Bool.or_false];try rfl
  have EH:=Lib.hid (show spec_l4Ops.f=some opL from rfl)
  have HI:=Lib.hid (specIn_is t opL (by decide))
  have hct:w2.cell? ⟨w.heap.size+1,1,none⟩=some (.string t):=by rw [hc2 _ _ (by simp)];simp [go_sem]
  go_wp2_with fail
  clear hc2 hf2
  first|go_region_held3 (fun w'=>w'.cell? ⟨w.heap.size+1,1,none⟩=some (.string t)∧Below w.heap.size w w')
    (first|(go_split_ands;refine⟨?_,?_⟩<;>first|assumption|exact z9q (by assumption) (by assumption)|exact z5q (by assumption) (by assumption)|exact z4q (by assumption)|exact HB2.out|exact z4q HB2.out|(simp;done)))
    (first|(go_at_call 116;refine(spec_l4Ops.calls _ _ EH.out).mono ?_;rintro e w3 ⟨v3,rfl,hR3,hb⟩;obtain⟨A3,c3,rfl,hle3,hC3⟩:=Kd.R_reads hR3;clear hR3)|(go_at_call 39;refine(spec_l4In.calls NK _ _ _ _ _ _ ?h1 ?h2 HI.out).mono ?_;(case h1=>first|exact hC3|exact Kd.C_below hC3 (z4q (Below.refl _ _)));(case h2=>exact hle3);rintro e w4 ⟨rfl,hd⟩;have hb:=Drawn0.below hd;clear hd))|fail
  all_goals go_split_ands
  all_goals go_wp2_with fail
  all_goals go_ret
  all_goals exact⟨rfl,by first|assumption|exact z4q (by assumption)|exact HB2.out|exact z4q HB2.out⟩
 ·replace hl:=Bool.eq_false_iff.mpr hl
  obtain rfl:R=false:=by rw [←HR.out];simp only [nodeB_10,hl,Bool.and_false,Bool.false_and,Bool.true_and,Bool.and_true,Bool.not_true,Bool.not_false,Bool.or_true,Bool.true_or,Bool.false_or,Bool.or_false];try rfl
  have hct:w2.cell? ⟨w.heap.size+1,1,none⟩=some (.string t):=by rw [hc2 _ _ (by simp)];simp [go_sem]
  go_wp2_with fail
  clear hc2 hf2
  go_quiet ((fail))
  all_goals go_wp2_with fail
  all_goals go_ret
  all_goals exact⟨rfl,by first|exact HB2.out|exact z4q HB2.out|exact z3q HB2.out _⟩

set_option maxHeartbeats 16000000 in
set_option maxRecDepth 100000 in
theorem right_11 (k:Int) (t:ByteArray) (n:Bool) (d x r c:Int) (p q:Bool) (r2 c2:Int) (p2 q2:Bool) (m:Int) (A:Option Addr) (cp:Nat) (l:List S70) (a1:Bool) (w:World) (nm:Bool) (v:Int) (hm:m=(l.length:Int)) (R:Bool) (hR:((!(k==13) || a1) && nodeB nm (arB v t m && l.all constB) k t n d x r c p q r2 c2 p2 q2 m)=R) (hN:k=7∨k=11→spec_l4Name.f NK t=some nm) (hV:k=12→spec_l2Number.f NK t=some v) (hC:Kd.C k70 w A l.length l) (hcp:l.length≤cp) (ht:t.size≤1048576) (hk:k=11):
  Calls Tryz.prog 103 #[.agg #[.int .i64 k,.string t,.bool n,.int .i64 d,.int .i64 x,.int .i64 r,.int .i64 c,.bool p,.bool q,.int .i64 r2,.int .i64 c2,.bool p2,.bool q2,.int .i64 m,.slice A l.length cp],.bool a1] w fun e w'=>e= .returned (.bool R)∧Below w.heap.size w w':=by
 subst hm
 have hB:Below w.heap.size w (((w.alloc (.cells #[.int .i64 k,.string t,.bool n,.int .i64 d,.int .i64 x,.int .i64 r,.int .i64 c,.bool p,.bool q,.int .i64 r2,.int .i64 c2,.bool p2,.bool q2,.int .i64 (l.length:Int),.slice A l.length cp] 70)).alloc (.cells #[.int .i64 k,.string t,.bool n,.int .i64 d,.int .i64 x,.int .i64 r,.int .i64 c,.bool p,.bool q,.int .i64 r2,.int .i64 c2,.bool p2,.bool q2,.int .i64 (l.length:Int)] 67))):=z2q (z2q (Below.refl _ _) _) _
 have HB:=Lib.hid hB;clear hB
 have HR:=Lib.hid hR;clear hR
 have HN:=Lib.hid hN;have HV:=Lib.hid hV;have HT:=Lib.hid ht;clear hN hV
 have HC:=Lib.hid hC;have HCP:=Lib.hid hcp;clear hC hcp
 subst hk
 go_enter Tryz.func103,Tryz.ntmps103
 go_upto_region 5 with fail
 have HG:=Lib.hid (specBare_is 11 t n d x r c p q r2 c2 p2 q2 (l.length:Int))
 go_wp2_with fail
 refine(spec_l4Bare.calls _ _ _ _ _ _ _ _ _ _ _ _ _ _ _ _ HG.out).mono ?_;rintro e w2 ⟨rfl,hb⟩
 obtain⟨hc2,hf2⟩:=bcell hb
 have HB2:=Lib.hid (z5q HB.out hb)
 have hsz2:w.heap.size+1<w2.heap.size:=by have h_:=hb.size;simp at h_;omega
 clear hb
 clear HG
 by_cases hbare:(zD n d x && (zR r c p q && zR r2 c2 p2 q2))=false
 ·rw [hbare]
  obtain rfl:R=false:=by rw [←HR.out];simp only [nodeB_11,hbare,Bool.and_false,Bool.false_and,Bool.true_and,Bool.and_true,Bool.not_true,Bool.not_false,Bool.or_true,Bool.true_or,Bool.false_or,Bool.or_false];try rfl
  clear hbare
  go_wp2_with fail
  go_ret
  exact⟨rfl,HB2.out⟩
 replace hbare:=(Bool.not_eq_false _).mp hbare
 rw [hbare]
 have hl0:decide (0≤(l.length:Int))=true:=decide_eq_true (by omega)
 by_cases hlD:decide ((l.length:Int)≤30)=true
 ·skip
  have hlE:decide (l.length≤30)=true:=decide_eq_true (by have:=of_decide_eq_true hlD;omega)
  have HG:=Lib.hid (HN.out (by first|trivial|decide|simp))
  by_cases hn:nm=true
  ·skip
   obtain rfl:R=((upS t).toList==t.toList):=by rw [←HR.out];simp only [nodeB_11,hlD,hl0,hn,hbare,Bool.and_false,Bool.false_and,Bool.true_and,Bool.and_true,Bool.not_true,Bool.not_false,Bool.or_true,Bool.true_or,Bool.false_or,Bool.or_false];try rfl
   subst hn
   clear hl0
   have HU:=Lib.hid (show spec_l4Upper.f t=some (upS t)by unfold spec_l4Upper.f;rw [if_pos HT.out])
   have hct:w2.cell? ⟨w.heap.size+1,1,none⟩=some (.string t):=by rw [hc2 _ _ (by simp)];simp [go_sem]
   go_wp2_with fail
   clear hc2 hf2
   first|go_region_held3 (fun w'=>w'.cell? ⟨w.heap.size+1,1,none⟩=some (.string t)∧Below w.heap.size w w')
     (first|(go_split_ands;refine⟨?_,?_⟩<;>first|assumption|exact z9q (by assumption) (by assumption)|exact z5q (by assumption) (by assumption)|exact z4q (by assumption)|exact HB2.out|exact z4q HB2.out|(simp;done)))
     (first|(go_at_call 115;refine(spec_l4Name.calls _ _ _ _ HG.out).mono ?_;rintro e w3 ⟨rfl,hb⟩)|(go_at_call 40;refine(spec_l4Upper.calls _ _ _ HU.out).mono ?_;rintro e w4 ⟨rfl,hb⟩))|fail
   all_goals go_split_ands
   all_goals go_wp2_with fail
   all_goals go_ret
   all_goals exact⟨rfl,by first|assumption|exact z4q (by assumption)|exact HB2.out|exact z4q HB2.out⟩
  ·replace hn:=Bool.eq_false_iff.mpr hn
   obtain rfl:R=false:=by rw [←HR.out];simp only [nodeB_11,hlD,hn,Bool.and_false,Bool.false_and,Bool.true_and,Bool.and_true,Bool.not_true,Bool.not_false,Bool.or_true,Bool.true_or,Bool.false_or,Bool.or_false];try rfl
   subst hn
   have hct:w2.cell? ⟨w.heap.size+1,1,none⟩=some (.string t):=by rw [hc2 _ _ (by simp)];simp [go_sem]
   go_wp2_with fail
   clear hc2 hf2
   refine wp_region_held_drew (S:=(fun w'=>w'.cell? ⟨w.heap.size+1,1,none⟩=some (.string t)∧Below w.heap.size w w')) (by kernel_rfl) ?_ (fun hHeld=> ?_)
   ·try dsimp only
    (first|(go_split_ands;refine⟨?_,?_⟩<;>first|assumption|exact z9q (by assumption) (by assumption)|exact z5q (by assumption) (by assumption)|exact z4q (by assumption)|exact HB2.out|exact z4q HB2.out|(simp;done)))
   simp only [List.size_toArray,List.length_cons,List.length_nil,Nat.reduceAdd,Array.replicate_succ,Array.replicate_zero,List.push_toArray,List.append_toArray,List.nil_append,List.cons_append]
   refine tkV 0 ?_;refine tkV 1 ?_;refine tkV 2 ?_;refine tkV 3 ?_;refine tkV 4 ?_
   refine wpAnyH_ready (rs:= [5]) (by kernel_rfl) (by simp) ?_
   refine AllReadyH.cons rfl (fun K hK=> ?_) AllReadyH.nil
   go_simp
   (go_at_call 115;refine(spec_l4Name.calls _ _ _ _ HG.out).mono ?_;rintro e w3 ⟨rfl,hb⟩)
   try go_wp2_with fail
   refine hK.out _ _ ?_ (fun hHeld=> ?_)
   ·try dsimp only
    (first|(go_split_ands;refine⟨?_,?_⟩<;>first|assumption|exact z9q (by assumption) (by assumption)|exact z5q (by assumption) (by assumption)|exact z4q (by assumption)|exact HB2.out|exact z4q HB2.out|(simp;done)))
   clear hK K
   try simp only [Act.put,setIfInBounds_toArray,set_cons_zero,set_cons_succ]
   refine tkV 6 ?_;refine tkV 7 ?_
   refine tkS 8 ?_;refine tkS 9 ?_;refine tkS 10 ?_;refine tkS 11 ?_;refine tkS 12 ?_;refine tkS 13 ?_
   refine tkV 14 ?_;refine tkV 15 ?_
   refine wpAnyH_done (by kernel_rfl) ?_ _
   go_split_ands
   go_wp2_with fail
   go_ret
   exact⟨rfl,by first|assumption|exact z4q (by assumption)|exact HB2.out|exact z4q HB2.out⟩
 ·replace hlD:=Bool.eq_false_iff.mpr hlD
  have hlE:decide (l.length≤30)=false:=decide_eq_false (by have:=of_decide_eq_false hlD;omega)
  obtain rfl:R=false:=by rw [←HR.out];simp only [nodeB_11,hlD,Bool.and_false,Bool.false_and,Bool.true_and,Bool.and_true,Bool.not_true,Bool.not_false,Bool.or_true,Bool.true_or,Bool.false_or,Bool.or_false];try rfl
  have hct:w2.cell? ⟨w.heap.size+1,1,none⟩=some (.string t):=by rw [hc2 _ _ (by simp)];simp [go_sem]
  go_wp2_with fail
  clear hc2 hf2
  go_quiet ((fail))
  all_goals go_wp2_with fail
  all_goals go_ret
  all_goals exact⟨rfl,by first|exact HB2.out|exact z4q HB2.out|exact z3q HB2.out _⟩

set_option maxHeartbeats 16000000 in
set_option maxRecDepth 100000 in
theorem right_12 (k:Int) (t:ByteArray) (n:Bool) (d x r c:Int) (p q:Bool) (r2 c2:Int) (p2 q2:Bool) (m:Int) (A:Option Addr) (cp:Nat) (l:List S70) (a1:Bool) (w:World) (nm:Bool) (v:Int) (hm:m=(l.length:Int)) (R:Bool) (hR:((!(k==13) || a1) && nodeB nm (arB v t m && l.all constB) k t n d x r c p q r2 c2 p2 q2 m)=R) (hN:k=7∨k=11→spec_l4Name.f NK t=some nm) (hV:k=12→spec_l2Number.f NK t=some v) (hC:Kd.C k70 w A l.length l) (hcp:l.length≤cp) (ht:t.size≤1048576) (hk:k=12):
  Calls Tryz.prog 103 #[.agg #[.int .i64 k,.string t,.bool n,.int .i64 d,.int .i64 x,.int .i64 r,.int .i64 c,.bool p,.bool q,.int .i64 r2,.int .i64 c2,.bool p2,.bool q2,.int .i64 m,.slice A l.length cp],.bool a1] w fun e w'=>e= .returned (.bool R)∧Below w.heap.size w w':=by
 subst hm
 have hB:Below w.heap.size w (((w.alloc (.cells #[.int .i64 k,.string t,.bool n,.int .i64 d,.int .i64 x,.int .i64 r,.int .i64 c,.bool p,.bool q,.int .i64 r2,.int .i64 c2,.bool p2,.bool q2,.int .i64 (l.length:Int),.slice A l.length cp] 70)).alloc (.cells #[.int .i64 k,.string t,.bool n,.int .i64 d,.int .i64 x,.int .i64 r,.int .i64 c,.bool p,.bool q,.int .i64 r2,.int .i64 c2,.bool p2,.bool q2,.int .i64 (l.length:Int)] 67))):=z2q (z2q (Below.refl _ _) _) _
 have HB:=Lib.hid hB;clear hB
 have HR:=Lib.hid hR;clear hR
 have HN:=Lib.hid hN;have HV:=Lib.hid hV;have HT:=Lib.hid ht;clear hN hV
 have HC:=Lib.hid hC;have HCP:=Lib.hid hcp;clear hC hcp
 subst hk
 go_enter Tryz.func103,Tryz.ntmps103
 go_upto_region 5 with fail
 have HG:=Lib.hid (specBare_is 12 t n d x r c p q r2 c2 p2 q2 (l.length:Int))
 go_wp2_with fail
 refine(spec_l4Bare.calls _ _ _ _ _ _ _ _ _ _ _ _ _ _ _ _ HG.out).mono ?_;rintro e w2 ⟨rfl,hb⟩
 obtain⟨hc2,hf2⟩:=bcell hb
 have HB2:=Lib.hid (z5q HB.out hb)
 have hsz2:w.heap.size+1<w2.heap.size:=by have h_:=hb.size;simp at h_;omega
 clear hb
 clear HG
 by_cases hbare:(zD n d x && (zR r c p q && zR r2 c2 p2 q2))=false
 ·rw [hbare]
  obtain rfl:R=false:=by rw [←HR.out];simp only [nodeB_12,hbare,Bool.and_false,Bool.false_and,Bool.true_and,Bool.and_true,Bool.not_true,Bool.not_false,Bool.or_true,Bool.true_or,Bool.false_or,Bool.or_false];try rfl
  clear hbare
  go_wp2_with fail
  go_ret
  exact⟨rfl,HB2.out⟩
 replace hbare:=(Bool.not_eq_false _).mp hbare
 rw [hbare]
 have HVV:=Lib.hid (HV.out (by first|trivial|decide|simp))
 go_wp2_with fail
 refine(spec_l2Number.calls _ _ _ _ HVV.out).mono ?_;rintro e w3 ⟨rfl,hd⟩
 have hb:=Drawn0.below hd
 obtain⟨hc3,hf3⟩:=bcell hb
 have HB3:=Lib.hid (z5q HB2.out hb)
 have hsz3:w.heap.size+1<w3.heap.size:=by have h_:=hb.size;omega
 have HS3:=Lib.hid hb.size
 clear hb hd
 by_cases h1:v<1
 ·have g1:decide (v<1)=true:=decide_eq_true h1;have g2:decide (1≤v)=false:=decide_eq_false (by omega)
  obtain rfl:R=false:=by rw [←HR.out];simp only [nodeB_12,arB,g2,Bool.and_false,Bool.false_and,Bool.true_and,Bool.and_true,Bool.not_true,Bool.not_false,Bool.or_true,Bool.true_or,Bool.false_or,Bool.or_false];try rfl
  have hct:w3.cell? ⟨w.heap.size+1,1,none⟩=some (.string t):=by rw [hc3 _ _ (by omega),hc2 _ _ (by simp)];simp [go_sem]
  clear hc2 hf2 hc3 hf3
  go_wp2_with fail
  go_quiet ((fail))
  all_goals go_wp2_with fail
  all_goals go_ret
  all_goals exact⟨rfl,by first|exact HB3.out|exact z4q HB3.out|exact z3q HB3.out _⟩
 have g1:decide (v<1)=false:=decide_eq_false h1;have g2:decide (1≤v)=true:=decide_eq_true (by omega)
 by_cases h2:20<v
 ·have g3:decide (20<v)=true:=decide_eq_true h2;have g4:decide (v≤20)=false:=decide_eq_false (by omega)
  obtain rfl:R=false:=by rw [←HR.out];simp only [nodeB_12,arB,g2,g4,Bool.and_false,Bool.false_and,Bool.true_and,Bool.and_true,Bool.not_true,Bool.not_false,Bool.or_true,Bool.true_or,Bool.false_or,Bool.or_false];try rfl
  have hct:w3.cell? ⟨w.heap.size+1,1,none⟩=some (.string t):=by rw [hc3 _ _ (by omega),hc2 _ _ (by simp)];simp [go_sem]
  clear hc2 hf2 hc3 hf3
  go_wp2_with fail
  go_quiet ((fail))
  all_goals go_wp2_with fail
  all_goals go_ret
  all_goals exact⟨rfl,by first|exact HB3.out|exact z4q HB3.out|exact z3q HB3.out _⟩
 have g3:decide (20<v)=false:=decide_eq_false h2;have g4:decide (v≤20)=true:=decide_eq_true (by omega)
 have HM:=Lib.hid (l1Num_is v (by omega) (by omega))
 have hct:w3.cell? ⟨w.heap.size+1,1,none⟩=some (.string t):=by rw [hc3 _ _ (by omega),hc2 _ _ (by simp)];simp [go_sem]
 have hcs:w3.cell? ⟨w.heap.size,14,none⟩=some (.slice A l.length cp):=by rw [hc3 _ _ (by omega),hc2 _ _ (by simp;omega)];simp [go_sem]
 clear hc2 hf2 hc3 hf3
 go_wp2_with fail
 refine wp_region_held_drew (S:=(fun w'=>w'.cell? ⟨w.heap.size+1,1,none⟩=some (.string t)∧w'.cell? ⟨w.heap.size,14,none⟩=some (.slice A l.length cp)∧Below w.heap.size w w')) (by kernel_rfl) ?_ (fun hHeld=> ?_)
 ·try dsimp only
  (first|(go_split_ands;refine⟨?_,?_,?_⟩<;>first|assumption|exact z9q (by assumption) (by assumption)|exact z5q (by assumption) (by assumption)|exact z4q (by assumption)|exact HB3.out|exact z4q HB3.out|(simp;done)))
 simp only [List.size_toArray,List.length_cons,List.length_nil,Nat.reduceAdd,Array.replicate_succ,Array.replicate_zero,List.push_toArray,List.append_toArray,List.nil_append,List.cons_append]
 refine tkV 0 ?_;refine tkV 1 ?_;refine tkV 2 ?_;refine tkV 3 ?_;refine tkV 4 ?_;refine tkV 5 ?_;refine tkV 6 ?_;refine tkV 7 ?_;refine tkV 9 ?_;refine tkV 10 ?_
 refine wpAnyH_ready (rs:= [8]) (by kernel_rfl) (by simp) ?_
 refine AllReadyH.cons rfl (fun K hK=> ?_) AllReadyH.nil
 go_simp
 (first|(go_at_call 118;refine(spec_l1Num.calls _ _ _ HM.out).mono ?_;rintro e w4 ⟨rfl,hb⟩))
 try go_wp2_with fail
 refine hK.out _ _ ?_ (fun hHeld=> ?_)
 ·try dsimp only
  (first|(go_split_ands;refine⟨?_,?_,?_⟩<;>first|assumption|exact z9q (by assumption) (by assumption)|exact z5q (by assumption) (by assumption)|exact z4q (by assumption)|exact HB3.out|exact z4q HB3.out|(simp;done)))
 clear hK K
 try simp only [Act.put,setIfInBounds_toArray,set_cons_zero,set_cons_succ]
 by_cases h3:((txt v).toList==t.toList)=true
 ·skip
  by_cases h4:(l.length:Int)<1
  ·have g5:decide ((l.length:Int)<1)=true:=decide_eq_true h4;have g5n:decide (l.length<1)=true:=decide_eq_true (by omega);have g6:decide (1≤(l.length:Int))=false:=decide_eq_false (by omega)
   have h3n:((txt v).toList !=t.toList)=false:=by simpa using h3
   obtain rfl:R=false:=by rw [←HR.out];simp only [nodeB_12,arB,g2,g4,h3,g6,Bool.and_false,Bool.false_and,Bool.true_and,Bool.and_true,Bool.not_true,Bool.not_false,Bool.or_true,Bool.true_or,Bool.false_or,Bool.or_false];try rfl
   refine tkV 11 ?_;refine tkV 12 ?_;refine tkV 13 ?_;refine tkV 14 ?_;refine tkV 15 ?_;refine tkV 16 ?_;refine tkV 17 ?_
   refine tkS 18 ?_;refine tkS 19 ?_
   refine tkV 20 ?_;refine tkV 21 ?_
   refine tkS 22 ?_;refine tkS 23 ?_;refine tkS 24 ?_;refine tkS 25 ?_
   refine tkV 26 ?_
   refine wpAnyH_done (by kernel_rfl) ?_ _
   go_split_ands
   go_wp2_with fail
   go_ret
   exact⟨rfl,by first|assumption|exact z4q (by assumption)|exact HB3.out|exact z4q HB3.out⟩
  have g5:decide ((l.length:Int)<1)=false:=decide_eq_false h4;have g5n:decide (l.length<1)=false:=decide_eq_false (by omega);have g6:decide (1≤(l.length:Int))=true:=decide_eq_true (by omega)
  have h3n:((txt v).toList !=t.toList)=false:=by simpa using h3
  by_cases h5:100<(l.length:Int)
  ·have g7:decide (100<(l.length:Int))=true:=decide_eq_true h5;have g7n:decide (100<l.length)=true:=decide_eq_true (by omega);have g8:decide ((l.length:Int)≤100)=false:=decide_eq_false (by omega)
   obtain rfl:R=false:=by rw [←HR.out];simp only [nodeB_12,arB,g2,g4,h3,g6,g8,Bool.and_false,Bool.false_and,Bool.true_and,Bool.and_true,Bool.not_true,Bool.not_false,Bool.or_true,Bool.true_or,Bool.false_or,Bool.or_false];try rfl
   refine tkV 11 ?_;refine tkV 12 ?_;refine tkV 13 ?_;refine tkV 14 ?_;refine tkV 15 ?_;refine tkV 16 ?_;refine tkV 17 ?_;refine tkV 18 ?_;refine tkV 19 ?_;refine tkV 20 ?_;refine tkV 21 ?_
   refine tkS 22 ?_;refine tkS 23 ?_;refine tkS 24 ?_;refine tkS 25 ?_
   refine tkV 26 ?_
   refine wpAnyH_done (by kernel_rfl) ?_ _
   go_split_ands
   go_wp2_with fail
   go_ret
   exact⟨rfl,by first|assumption|exact z4q (by assumption)|exact HB3.out|exact z4q HB3.out⟩
  have g7:decide (100<(l.length:Int))=false:=decide_eq_false h5;have g7n:decide (100<l.length)=false:=decide_eq_false (by omega);have g8:decide ((l.length:Int)≤100)=true:=decide_eq_true (by omega)
  have hv0:(v==0)=false:=beq_eq_false_iff_ne.mpr (by omega)
  have hv1:¬ v=0:=by omega
  have htm:Int.tmod (l.length:Int) v=(l.length:Int) % v:=Int.tmod_eq_emod_of_nonneg (by omega)
  have h100:(l.length:Int)≤100:=by omega
  clear h4 h5
  by_cases h6:(Int.tmod (l.length:Int) v==0)=true
  ·skip
   have h6n:(Int.tmod (l.length:Int) v !=0)=false:=by simpa using h6
   have h6m:((l.length:Int) % v==0)=true:=by rw [←htm];exact h6
   have h6o:((l.length:Int) % v !=0)=false:=by rw [←htm];exact h6n
   obtain rfl:R=l.all constB:=by rw [←HR.out];simp only [nodeB_12,arB,g2,g4,h3,g6,g8,h6,hbare,Bool.and_false,Bool.false_and,Bool.true_and,Bool.and_true,Bool.not_true,Bool.not_false,Bool.or_true,Bool.true_or,Bool.false_or,Bool.or_false];try rfl
   refine tkV 11 ?_;refine tkV 12 ?_;refine tkV 13 ?_;refine tkV 14 ?_;refine tkV 15 ?_;refine tkV 16 ?_;refine tkV 17 ?_;refine tkV 18 ?_;refine tkV 19 ?_;refine tkV 20 ?_;refine tkV 21 ?_;refine tkV 22 ?_;refine tkV 23 ?_;refine tkV 24 ?_;refine tkV 25 ?_;refine tkV 26 ?_
   refine wpAnyH_done (by kernel_rfl) ?_ _
   go_split_ands
   all_goals (try clear h6 h6n h6m h6o h3 h3n g1 g2 g3 g4 g5 g5n g6 g7 g7n g8 hv0 hv1 htm)
   all_goals
    go_wp2_with fail
    have HB5:Hid (Below w.heap.size w _):=Lib.hid (by assumption)
    go_loopw [235] (fun i w'=>∃ x:Int,0≤x∧x≤(l.length:Int)∧i= .int .i64 x∧Hid (Below w.heap.size w w')∧Hid ((l.take x.toNat).all constB=true)) (fun i _=>l.length-(intOf i).toNat)
    case atStart=>exact⟨0,by omega,by omega,rfl,HB5,Lib.hid rfl⟩
    case round=>
     obtain⟨x,hx0,hx1,rfl,HBr,HP⟩:=hrel
     clear HB5
     by_cases hlt:x<(l.length:Int)
     ·have hCr:=Kd.C_below HC.out HBr.out
      obtain⟨ad,A14,c14,rfl,y0,y1,y2,y3,y4,y5,y6,y7,y8,y9,y10,y11,y12,y13,y14,l14,g14⟩:=at_T70 hCr x hx0 hlt
      have p1:(0≤x)=True:=eq_true hx0
      have p2:(x<(l.length:Int))=True:=eq_true hlt
      have b1:decide (x<(l.length:Int))=true:=decide_eq_true hlt
      have hw1:IntKind.i64.wrap (x+1)=x+1:=IntWalk.i64_in _ (by omega)
      have HW1:=Lib.hid hw1;clear hw1
      have hsn:l.take (x+1).toNat=l.take x.toNat ++ [rd_T70 l x]:=by
       rw [show(x+1).toNat=x.toNat+1 from by omega,List.take_succ_eq_append_getElem (by omega:x.toNat<l.length)];congr 2;unfold rd_T70;rw [List.getD_eq_getElem?_getD,List.getElem?_eq_getElem (by omega:x.toNat<l.length)];rfl
      have hmem:rd_T70 l x∈l:=by unfold rd_T70;rw [List.getD_eq_getElem?_getD,List.getElem?_eq_getElem (by omega:x.toNat<l.length)];exact List.getElem_mem _
      have HSN:=Lib.hid hsn;have HMEM:=Lib.hid hmem;have L14:=Lib.hid l14;have G14:=Lib.hid g14;clear l14 g14 hCr hsn hmem
      have HK0:=Lib.hid (constIs (rd_T70 l x))
      have HX:=Lib.hid (show 0≤x∧x<(l.length:Int)∧(l.length:Int)≤100 from⟨hx0,hlt,h100⟩)
      clear hx0 hx1 hlt
      generalize rd_T70 l x=X at *
      obtain⟨⟨n0,n1,⟨n2,n3,n4⟩,⟨n5,n6,n7,n8⟩,⟨n9,n10,n11,n12⟩,n13⟩,ks⟩:=X
      simp only at y0 y1 y2 y3 y4 y5 y6 y7 y8 y9 y10 y11 y12 y13 y14 L14 G14
      go_wp2_with fail
      refine(spec_l4Constant.calls _ _ _ _ _ _ _ _ _ _ _ _ _ _ _ _ _ _ _ _ (Kd.C_below G14.out (z2q (Below.refl _ _) _)) L14.out HK0.out).mono ?_;rintro e w9 ⟨rfl,hb⟩
      have HB9:=Lib.hid (z5q (z2q HBr.out _) hb)
      clear hb y0 y1 y2 y3 y4 y5 y6 y7 y8 y9 y10 y11 y12 y13 y14
      cases hX:constB ⟨⟨n0,n1,⟨n2,n3,n4⟩,⟨n5,n6,n7,n8⟩,⟨n9,n10,n11,n12⟩,n13⟩,ks⟩
      ·have HAF:=Lib.hid (show l.all constB=false from List.all_eq_false.mpr ⟨_,HMEM.out,by rw [hX];decide⟩)
       clear hX
       go_wp2_with fail
       go_ret
       exact⟨by rw [HAF.out];rfl,HB9.out⟩
      ·have HP2:=Lib.hid (show(l.take (x+1).toNat).all constB=true by rw [HSN.out,List.all_append,HP.out];simp [hX])
       clear hX
       go_wp2_with fail
       go_roundw
       case rel=>exact⟨x+1,by have:=HX.out;omega,by have:=HX.out;omega,by first|rfl|(rw [show wrap64 (x+1)=x+1 from by unfold wrap64;have:=HX.out;omega]),HB9,HP2⟩
       case measure=>(have hw_:wrap64 (x+1)=x+1:=by unfold wrap64;have:=HX.out;omega);have:=HX.out;simp [intOf,hw_];omega
     ·have b1:decide (x<(l.length:Int))=false:=decide_eq_false hlt
      have HAT:=Lib.hid (show l.all constB=true by have h_:=HP.out;rw [List.take_of_length_le (by omega)]at h_;exact h_)
      clear hlt
      go_wp2_with fail
      go_ret
      exact⟨by rw [HAT.out];rfl,HBr.out⟩
  ·replace h6:=Bool.eq_false_iff.mpr h6
   have h6n:(Int.tmod (l.length:Int) v !=0)=true:=by simpa using h6
   have h6m:((l.length:Int) % v==0)=false:=by rw [←htm];exact h6
   have h6o:((l.length:Int) % v !=0)=true:=by rw [←htm];exact h6n
   obtain rfl:R=false:=by rw [←HR.out];simp only [nodeB_12,arB,g2,g4,h3,g6,g8,h6,hbare,Bool.and_false,Bool.false_and,Bool.true_and,Bool.and_true,Bool.not_true,Bool.not_false,Bool.or_true,Bool.true_or,Bool.false_or,Bool.or_false];try rfl
   refine tkV 11 ?_;refine tkV 12 ?_;refine tkV 13 ?_;refine tkV 14 ?_;refine tkV 15 ?_;refine tkV 16 ?_;refine tkV 17 ?_;refine tkV 18 ?_;refine tkV 19 ?_;refine tkV 20 ?_;refine tkV 21 ?_;refine tkV 22 ?_;refine tkV 23 ?_;refine tkV 24 ?_;refine tkV 25 ?_;refine tkV 26 ?_
   refine wpAnyH_done (by kernel_rfl) ?_ _
   go_split_ands
   go_wp2_with fail
   go_ret
   exact⟨rfl,by first|assumption|exact z4q (by assumption)|exact HB3.out|exact z4q HB3.out⟩
 ·replace h3:=Bool.eq_false_iff.mpr h3;have h3n:((txt v).toList !=t.toList)=true:=by simpa using h3
  obtain rfl:R=false:=by rw [←HR.out];simp only [nodeB_12,arB,g2,g4,h3,Bool.and_false,Bool.false_and,Bool.true_and,Bool.and_true,Bool.not_true,Bool.not_false,Bool.or_true,Bool.true_or,Bool.false_or,Bool.or_false];try rfl
  refine tkV 11 ?_;refine tkV 12 ?_;refine tkV 13 ?_
  refine tkS 14 ?_;refine tkS 15 ?_
  refine tkV 16 ?_;refine tkV 17 ?_
  refine tkS 18 ?_;refine tkS 19 ?_
  refine tkV 20 ?_;refine tkV 21 ?_
  refine tkS 22 ?_;refine tkS 23 ?_;refine tkS 24 ?_;refine tkS 25 ?_
  refine tkV 26 ?_
  refine wpAnyH_done (by kernel_rfl) ?_ _
  go_split_ands
  go_wp2_with fail
  go_ret
  exact⟨rfl,by first|assumption|exact z4q (by assumption)|exact HB3.out|exact z4q HB3.out⟩

set_option maxHeartbeats 16000000 in
set_option maxRecDepth 100000 in
theorem right_0 (k:Int) (t:ByteArray) (n:Bool) (d x r c:Int) (p q:Bool) (r2 c2:Int) (p2 q2:Bool) (m:Int) (A:Option Addr) (cp:Nat) (l:List S70) (a1:Bool) (w:World) (nm:Bool) (v:Int) (hm:m=(l.length:Int)) (R:Bool) (hR:((!(k==13) || a1) && nodeB nm (arB v t m && l.all constB) k t n d x r c p q r2 c2 p2 q2 m)=R) (hN:k=7∨k=11→spec_l4Name.f NK t=some nm) (hV:k=12→spec_l2Number.f NK t=some v) (hC:Kd.C k70 w A l.length l) (hcp:l.length≤cp) (ht:t.size≤1048576) (hk1:¬ k=1) (hk5:¬ k=5) (hk6:¬ k=6) (hk2:¬ k=2) (hk3:¬ k=3) (hk4:¬ k=4) (hk7:¬ k=7) (hk13:¬ k=13) (hk8:¬ k=8) (hk9:¬ k=9) (hk10:¬ k=10) (hk11:¬ k=11) (hk12:¬ k=12):
  Calls Tryz.prog 103 #[.agg #[.int .i64 k,.string t,.bool n,.int .i64 d,.int .i64 x,.int .i64 r,.int .i64 c,.bool p,.bool q,.int .i64 r2,.int .i64 c2,.bool p2,.bool q2,.int .i64 m,.slice A l.length cp],.bool a1] w fun e w'=>e= .returned (.bool R)∧Below w.heap.size w w':=by
 subst hm
 have hB:Below w.heap.size w (((w.alloc (.cells #[.int .i64 k,.string t,.bool n,.int .i64 d,.int .i64 x,.int .i64 r,.int .i64 c,.bool p,.bool q,.int .i64 r2,.int .i64 c2,.bool p2,.bool q2,.int .i64 (l.length:Int),.slice A l.length cp] 70)).alloc (.cells #[.int .i64 k,.string t,.bool n,.int .i64 d,.int .i64 x,.int .i64 r,.int .i64 c,.bool p,.bool q,.int .i64 r2,.int .i64 c2,.bool p2,.bool q2,.int .i64 (l.length:Int)] 67))):=z2q (z2q (Below.refl _ _) _) _
 have HB:=Lib.hid hB;clear hB
 have HR:=Lib.hid hR;clear hR
 have HN:=Lib.hid hN;have HV:=Lib.hid hV;have HT:=Lib.hid ht;clear hN hV
 have HC:=Lib.hid hC;have HCP:=Lib.hid hcp;clear hC hcp
 have hb1:(k==1)=false:=beq_eq_false_iff_ne.mpr hk1;have HK1:=Lib.hid hk1
 have hb5:(k==5)=false:=beq_eq_false_iff_ne.mpr hk5;have HK5:=Lib.hid hk5
 have hb6:(k==6)=false:=beq_eq_false_iff_ne.mpr hk6;have HK6:=Lib.hid hk6
 have hb2:(k==2)=false:=beq_eq_false_iff_ne.mpr hk2;have HK2:=Lib.hid hk2
 have hb3:(k==3)=false:=beq_eq_false_iff_ne.mpr hk3;have HK3:=Lib.hid hk3
 have hb4:(k==4)=false:=beq_eq_false_iff_ne.mpr hk4;have HK4:=Lib.hid hk4
 have hb7:(k==7)=false:=beq_eq_false_iff_ne.mpr hk7;have HK7:=Lib.hid hk7
 have hb13:(k==13)=false:=beq_eq_false_iff_ne.mpr hk13;have HK13:=Lib.hid hk13
 have hb8:(k==8)=false:=beq_eq_false_iff_ne.mpr hk8;have HK8:=Lib.hid hk8
 have hb9:(k==9)=false:=beq_eq_false_iff_ne.mpr hk9;have HK9:=Lib.hid hk9
 have hb10:(k==10)=false:=beq_eq_false_iff_ne.mpr hk10;have HK10:=Lib.hid hk10
 have hb11:(k==11)=false:=beq_eq_false_iff_ne.mpr hk11;have HK11:=Lib.hid hk11
 have hb12:(k==12)=false:=beq_eq_false_iff_ne.mpr hk12;have HK12:=Lib.hid hk12
 clear hk1 hk5 hk6 hk2 hk3 hk4 hk7 hk13 hk8 hk9 hk10 hk11 hk12
 go_enter Tryz.func103,Tryz.ntmps103
 go_upto_region 5 with fail
 have HG:=Lib.hid (specBare_is k t n d x r c p q r2 c2 p2 q2 (l.length:Int))
 go_wp2_with fail
 refine(spec_l4Bare.calls _ _ _ _ _ _ _ _ _ _ _ _ _ _ _ _ HG.out).mono ?_;rintro e w2 ⟨rfl,hb⟩
 obtain⟨hc2,hf2⟩:=bcell hb
 have HB2:=Lib.hid (z5q HB.out hb)
 have hsz2:w.heap.size+1<w2.heap.size:=by have h_:=hb.size;simp at h_;omega
 clear hb
 clear HG
 by_cases hbare:(zD n d x && (zR r c p q && zR r2 c2 p2 q2))=false
 ·rw [hbare]
  obtain rfl:R=false:=by rw [←HR.out];rw [show nodeB nm (arB v t (l.length:Int) && l.all constB) k t n d x r c p q r2 c2 p2 q2 (l.length:Int)=false by unfold nodeB;rw [if_neg HK1.out,if_neg HK5.out,if_neg HK6.out,hbare,Bool.false_and],Bool.and_false]
  clear hbare
  go_wp2_with fail
  go_ret
  exact⟨rfl,HB2.out⟩
 replace hbare:=(Bool.not_eq_false _).mp hbare
 rw [hbare]
 obtain rfl:R=false:=by rw [←HR.out];rw [show nodeB nm (arB v t (l.length:Int) && l.all constB) k t n d x r c p q r2 c2 p2 q2 (l.length:Int)=false by unfold nodeB;rw [if_neg HK1.out,if_neg HK5.out,if_neg HK6.out,if_neg HK2.out,if_neg HK3.out,if_neg HK4.out,if_neg HK7.out,if_neg HK13.out,if_neg (fun h=>h.elim HK8.out HK9.out),if_neg HK10.out,if_neg HK11.out,if_neg HK12.out,Bool.and_false],Bool.and_false]
 clear hbare
 go_wp2_with fail
 go_ret
 exact⟨rfl,HB2.out⟩

theorem right_walk (k:Int) (t:ByteArray) (n:Bool) (d x r c:Int) (p q:Bool) (r2 c2:Int) (p2 q2:Bool) (m:Int) (A:Option Addr) (cp:Nat) (l:List S70) (a1:Bool) (w:World) (nm:Bool) (v:Int) (hm:m=(l.length:Int)) (R:Bool) (hR:((!(k==13) || a1) && nodeB nm (arB v t m && l.all constB) k t n d x r c p q r2 c2 p2 q2 m)=R) (hN:k=7∨k=11→spec_l4Name.f NK t=some nm) (hV:k=12→spec_l2Number.f NK t=some v) (hC:Kd.C k70 w A l.length l) (hcp:l.length≤cp) (ht:t.size≤1048576):
  Calls Tryz.prog 103 #[.agg #[.int .i64 k,.string t,.bool n,.int .i64 d,.int .i64 x,.int .i64 r,.int .i64 c,.bool p,.bool q,.int .i64 r2,.int .i64 c2,.bool p2,.bool q2,.int .i64 m,.slice A l.length cp],.bool a1] w fun e w'=>e= .returned (.bool R)∧Below w.heap.size w w':=by
 by_cases h1:k=1
 ·exact right_1 k t n d x r c p q r2 c2 p2 q2 m A cp l a1 w nm v hm R hR hN hV hC hcp ht h1
 by_cases h5:k=5
 ·exact right_5 k t n d x r c p q r2 c2 p2 q2 m A cp l a1 w nm v hm R hR hN hV hC hcp ht h5
 by_cases h6:k=6
 ·exact right_6 k t n d x r c p q r2 c2 p2 q2 m A cp l a1 w nm v hm R hR hN hV hC hcp ht h6
 by_cases h2:k=2
 ·exact right_2 k t n d x r c p q r2 c2 p2 q2 m A cp l a1 w nm v hm R hR hN hV hC hcp ht h2
 by_cases h3:k=3
 ·exact right_3 k t n d x r c p q r2 c2 p2 q2 m A cp l a1 w nm v hm R hR hN hV hC hcp ht h3
 by_cases h4:k=4
 ·exact right_4 k t n d x r c p q r2 c2 p2 q2 m A cp l a1 w nm v hm R hR hN hV hC hcp ht h4
 by_cases h7:k=7
 ·exact right_7 k t n d x r c p q r2 c2 p2 q2 m A cp l a1 w nm v hm R hR hN hV hC hcp ht h7
 by_cases h13:k=13
 ·exact right_13 k t n d x r c p q r2 c2 p2 q2 m A cp l a1 w nm v hm R hR hN hV hC hcp ht h13
 by_cases h8:k=8
 ·exact right_8 k t n d x r c p q r2 c2 p2 q2 m A cp l a1 w nm v hm R hR hN hV hC hcp ht h8
 by_cases h9:k=9
 ·exact right_9 k t n d x r c p q r2 c2 p2 q2 m A cp l a1 w nm v hm R hR hN hV hC hcp ht h9
 by_cases h10:k=10
 ·exact right_10 k t n d x r c p q r2 c2 p2 q2 m A cp l a1 w nm v hm R hR hN hV hC hcp ht h10
 by_cases h11:k=11
 ·exact right_11 k t n d x r c p q r2 c2 p2 q2 m A cp l a1 w nm v hm R hR hN hV hC hcp ht h11
 by_cases h12:k=12
 ·exact right_12 k t n d x r c p q r2 c2 p2 q2 m A cp l a1 w nm v hm R hR hN hV hC hcp ht h12
 exact right_0 k t n d x r c p q r2 c2 p2 q2 m A cp l a1 w nm v hm R hR hN hV hC hcp ht h1 h5 h6 h2 h3 h4 h7 h13 h8 h9 h10 h11 h12

set_option maxHeartbeats 4000000 in
set_option maxRecDepth 100000 in
theorem right_ne (k:Int) (t:ByteArray) (n:Bool) (d x r c:Int) (p q:Bool) (r2 c2:Int) (p2 q2:Bool) (m:Int) (A:Option Addr) (cp:Nat) (l:List S70) (a1:Bool) (w:World) (hm:¬ m=(l.length:Int)):
  Calls Tryz.prog 103 #[.agg #[.int .i64 k,.string t,.bool n,.int .i64 d,.int .i64 x,.int .i64 r,.int .i64 c,.bool p,.bool q,.int .i64 r2,.int .i64 c2,.bool p2,.bool q2,.int .i64 m,.slice A l.length cp],.bool a1] w fun e w'=>e= .returned (.bool false)∧Below w.heap.size w w':=by
 have b1:(m !=(l.length:Int))=true:=bne_iff_ne.mpr hm
 have b2:(m==(l.length:Int))=false:=beq_eq_false_iff_ne.mpr hm
 clear hm
 go_enter Tryz.func103,Tryz.ntmps103
 go_wp2_with fail
 go_ret
 exact⟨rfl,z2q (z2q (Below.refl _ _) _) _⟩

theorem spec_l4Right.calls (a0_0:Int) (a0_1:ByteArray) (a0_2:Bool) (a0_3:Int) (a0_4:Int) (a0_5:Int) (a0_6:Int) (a0_7:Bool) (a0_8:Bool) (a0_9:Int) (a0_10:Int) (a0_11:Bool) (a0_12:Bool) (a0_13:Int) (A0_14:Option Addr) (c0_14:Nat) (l0_14:List (S70)) (a1:Bool) (r:Bool) (w:World) (hr0_14:Kd.C k70 w A0_14 l0_14.length l0_14) (hc0_14:l0_14.length≤c0_14) (h:spec_l4Right.f a0_0 a0_1 a0_2 a0_3 a0_4 a0_5 a0_6 a0_7 a0_8 a0_9 a0_10 a0_11 a0_12 a0_13 l0_14 a1=some r):
  Calls Tryz.prog 103 #[.agg #[.int .i64 a0_0,.string a0_1,.bool a0_2,.int .i64 a0_3,.int .i64 a0_4,.int .i64 a0_5,.int .i64 a0_6,.bool a0_7,.bool a0_8,.int .i64 a0_9,.int .i64 a0_10,.bool a0_11,.bool a0_12,.int .i64 a0_13,.slice A0_14 l0_14.length c0_14],.bool a1] w fun e w'=>e= .returned (.bool r)∧Below w.heap.size w w':=by
 unfold spec_l4Right.f at h
 by_cases hs:a0_1.size≤1048576
 ·rw [if_pos hs]at h
  obtain⟨nm,hnm,h⟩:=Option.bind_eq_some_iff.mp h
  obtain⟨v,hv,h⟩:=Option.bind_eq_some_iff.mp h
  replace h:=Option.some.inj h
  by_cases hm:a0_13=(l0_14.length:Int)
  ·rw [show(a0_13==(l0_14.length:Int))=true from beq_iff_eq.mpr hm,Bool.true_and]at h
   exact right_walk a0_0 a0_1 a0_2 a0_3 a0_4 a0_5 a0_6 a0_7 a0_8 a0_9 a0_10 a0_11 a0_12 a0_13 A0_14 c0_14 l0_14 a1 w nm v hm r h (fun hk=>by rw [if_pos hk]at hnm;exact hnm) (fun hk=>by rw [if_pos hk]at hv;exact hv) hr0_14 hc0_14 hs
  ·rw [show(a0_13==(l0_14.length:Int))=false from beq_eq_false_iff_ne.mpr hm,Bool.false_and]at h
   subst h
   exact right_ne a0_0 a0_1 a0_2 a0_3 a0_4 a0_5 a0_6 a0_7 a0_8 a0_9 a0_10 a0_11 a0_12 a0_13 A0_14 c0_14 l0_14 a1 w hm
 ·rw [if_neg hs]at h;cases h




/-! ### spec_l4Size: function 94 -/

mutual
def spec_l4Size.l0:Nat→Int→Int→List (S70)→Int→Int→Int→ByteArray→Bool→Int→Int→Int→Int→Bool→Bool→Int→Int→Bool→Bool→Int→List (S70)→Option (Int×Int×Bool)
 |0,_,_,_,_,_,_,_,_,_,_,_,_,_,_,_,_,_,_,_,_=>none
 |k+1,x7,x8,x19,x20,x21,x326000,x326001,x326002,x326003,x326004,x326005,x326006,x326007,x326008,x326009,x326010,x326011,x326012,x326013,x326014=>if x21<x20 then(if 0≤x21 then(if x21<(x19.length:Int)then(if x326000=11 then((spec_l4Size.f k ((rd_T70 x19 x21).f0.f0) ((rd_T70 x19 x21).f0.f1) ((rd_T70 x19 x21).f0.f2.f0) ((rd_T70 x19 x21).f0.f2.f1) ((rd_T70 x19 x21).f0.f2.f2) ((rd_T70 x19 x21).f0.f3.f0) ((rd_T70 x19 x21).f0.f3.f1) ((rd_T70 x19 x21).f0.f3.f2) ((rd_T70 x19 x21).f0.f3.f3) ((rd_T70 x19 x21).f0.f4.f0) ((rd_T70 x19 x21).f0.f4.f1) ((rd_T70 x19 x21).f0.f4.f2) ((rd_T70 x19 x21).f0.f4.f3) ((rd_T70 x19 x21).f0.f5) ((rd_T70 x19 x21).f1) (decide ((x326014.length:Int) > 1))).bind fun bt329=>(if bt329.2.2=true then((spec_l3Max.f x8 bt329.2.1).bind fun t332=>(spec_l4Size.l0 k (wrap64 (x7+bt329.1)) t332 x19 x20 (wrap64 (x21+1)) x326000 x326001 x326002 x326003 x326004 x326005 x326006 x326007 x326008 x326009 x326010 x326011 x326012 x326013 x326014))else(some (0,0,false))))else((spec_l4Size.f k ((rd_T70 x19 x21).f0.f0) ((rd_T70 x19 x21).f0.f1) ((rd_T70 x19 x21).f0.f2.f0) ((rd_T70 x19 x21).f0.f2.f1) ((rd_T70 x19 x21).f0.f2.f2) ((rd_T70 x19 x21).f0.f3.f0) ((rd_T70 x19 x21).f0.f3.f1) ((rd_T70 x19 x21).f0.f3.f2) ((rd_T70 x19 x21).f0.f3.f3) ((rd_T70 x19 x21).f0.f4.f0) ((rd_T70 x19 x21).f0.f4.f1) ((rd_T70 x19 x21).f0.f4.f2) ((rd_T70 x19 x21).f0.f4.f3) ((rd_T70 x19 x21).f0.f5) ((rd_T70 x19 x21).f1) false).bind fun bt333=>(if bt333.2.2=true then((spec_l3Max.f x8 bt333.2.1).bind fun t336=>(spec_l4Size.l0 k (wrap64 (x7+bt333.1)) t336 x19 x20 (wrap64 (x21+1)) x326000 x326001 x326002 x326003 x326004 x326005 x326006 x326007 x326008 x326009 x326010 x326011 x326012 x326013 x326014))else(some (0,0,false)))))else(none))else(none))else(some (x7,wrap64 (x8+1),true))
def spec_l4Size.f:Nat→Int→ByteArray→Bool→Int→Int→Int→Int→Bool→Bool→Int→Int→Bool→Bool→Int→List (S70)→Bool→Option (Int×Int×Bool)
 |0,_,_,_,_,_,_,_,_,_,_,_,_,_,_,_,_=>none
 |k+1,a0_0,a0_1,a0_2,a0_3,a0_4,a0_5,a0_6,a0_7,a0_8,a0_9,a0_10,a0_11,a0_12,a0_13,l0_14,a1=>(spec_l4Right.f a0_0 a0_1 a0_2 a0_3 a0_4 a0_5 a0_6 a0_7 a0_8 a0_9 a0_10 a0_11 a0_12 a0_13 l0_14 a1).bind fun t326=>(if t326=true then(spec_l4Size.l0 k 1 0 l0_14 (l0_14.length:Int) 0 a0_0 a0_1 a0_2 a0_3 a0_4 a0_5 a0_6 a0_7 a0_8 a0_9 a0_10 a0_11 a0_12 a0_13 l0_14)else(some (0,0,false)))
end

set_option maxHeartbeats 8000000 in
set_option maxRecDepth 100000 in
theorem spec_l4Size.calls (k:Nat):∀ (a0_0:Int) (a0_1:ByteArray) (a0_2:Bool) (a0_3:Int) (a0_4:Int) (a0_5:Int) (a0_6:Int) (a0_7:Bool) (a0_8:Bool) (a0_9:Int) (a0_10:Int) (a0_11:Bool) (a0_12:Bool) (a0_13:Int) (A0_14:Option Addr) (c0_14:Nat) (l0_14:List (S70)) (a1:Bool) (r1:Int) (r2:Int) (r3:Bool) (w:World) (hr0_14:Kd.C k70 w A0_14 l0_14.length l0_14) (hc0_14:l0_14.length≤c0_14) (h:spec_l4Size.f k a0_0 a0_1 a0_2 a0_3 a0_4 a0_5 a0_6 a0_7 a0_8 a0_9 a0_10 a0_11 a0_12 a0_13 l0_14 a1=some (r1,r2,r3)),
  Calls Tryz.prog 94 #[.agg #[.int .i64 a0_0,.string a0_1,.bool a0_2,.int .i64 a0_3,.int .i64 a0_4,.int .i64 a0_5,.int .i64 a0_6,.bool a0_7,.bool a0_8,.int .i64 a0_9,.int .i64 a0_10,.bool a0_11,.bool a0_12,.int .i64 a0_13,.slice A0_14 l0_14.length c0_14],.bool a1] w fun e w'=>e= .returned (.tuple #[.int .i64 r1,.int .i64 r2,.bool r3])∧Below w.heap.size w w':=by
 induction k using Nat.strongRecOn with
 |_ k ih=>
 intro a0_0 a0_1 a0_2 a0_3 a0_4 a0_5 a0_6 a0_7 a0_8 a0_9 a0_10 a0_11 a0_12 a0_13 A0_14 c0_14 l0_14 a1 r1 r2 r3 w hr0_14 hc0_14 h
 cases k with
 |zero=>exact absurd h (by simp [spec_l4Size.f])
 |succ k=>
 simp only [spec_l4Size.f]at h
 obtain⟨g,hg,H⟩:=Option.bind_eq_some_iff.mp h
 clear h
 have HG:=Lib.hid hg;have HR:=Lib.hid hr0_14;have HC:=Lib.hid hc0_14
 have HB0:=Lib.hid (z2q (Below.refl w.heap.size w) (.cells #[.int .i64 a0_0,.string a0_1,.bool a0_2,.int .i64 a0_3,.int .i64 a0_4,.int .i64 a0_5,.int .i64 a0_6,.bool a0_7,.bool a0_8,.int .i64 a0_9,.int .i64 a0_10,.bool a0_11,.bool a0_12,.int .i64 a0_13,.slice A0_14 l0_14.length c0_14] 70))
 clear hg hr0_14 hc0_14
 cases g with
 |false=>
  have H1:some ((0:Int),(0:Int),false)=some (r1,r2,r3):=by simpa using H
  clear H
  injection H1 with H1;injection H1 with e1 H1;injection H1 with e2 e3;subst e1;subst e2;subst e3
  go_enter Tryz.func94,Tryz.ntmps94
  go_wp2_with fail
  refine(spec_l4Right.calls _ _ _ _ _ _ _ _ _ _ _ _ _ _ _ _ _ _ _ _ (Kd.C_below HR.out HB0.out) HC.out HG.out).mono ?_;rintro e w2 ⟨rfl,hb⟩
  have HB2:=Lib.hid (z5q HB0.out hb);clear hb
  go_wp2_with fail
  go_ret3
  exact⟨rfl,HB2.out⟩
 |true=>
  have H1:spec_l4Size.l0 k 1 0 l0_14 (l0_14.length:Int) 0 a0_0 a0_1 a0_2 a0_3 a0_4 a0_5 a0_6 a0_7 a0_8 a0_9 a0_10 a0_11 a0_12 a0_13 l0_14=some (r1,r2,r3):=by simpa using H
  clear H
  have H':=Lib.hid H1;clear H1
  go_enter Tryz.func94,Tryz.ntmps94
  go_wp2_with fail
  refine(spec_l4Right.calls _ _ _ _ _ _ _ _ _ _ _ _ _ _ _ _ _ _ _ _ (Kd.C_below HR.out HB0.out) HC.out HG.out).mono ?_;rintro e w2 ⟨rfl,hb⟩
  have HB2:=Lib.hid (z5q HB0.out hb)
  have hx0:w2.cell? ⟨w.heap.size,0,none⟩=some (.int .i64 a0_0):=((bcell hb).1 _ _ (by simp)).trans (by simp [go_sem])
  have hx14:w2.cell? ⟨w.heap.size,14,none⟩=some (.slice A0_14 l0_14.length c0_14):=((bcell hb).1 _ _ (by simp)).trans (by simp [go_sem])
  have hsz:w.heap.size<w2.heap.size:=by have h_:=hb.size;simp at h_;omega
  clear hb
  go_wp2_with fail
  have HX0:=Lib.hid hx0;have HX14:=Lib.hid hx14;clear hx0 hx14
  go_loopg [7,8,21] k (fun kq v7 v8 v21 w'=>∃ (x7:Int) (x8:Int) (x21:Int),v7= .int .i64 x7∧v8= .int .i64 x8∧v21= .int .i64 x21∧Hid (spec_l4Size.l0 kq x7 x8 l0_14 (l0_14.length:Int) x21 a0_0 a0_1 a0_2 a0_3 a0_4 a0_5 a0_6 a0_7 a0_8 a0_9 a0_10 a0_11 a0_12 a0_13 l0_14=some (r1,r2,r3))∧Hid (kq≤k)∧Hid (w'.cell? ⟨w.heap.size,0,none⟩=some (.int .i64 a0_0))∧Hid (w'.cell? ⟨w.heap.size,14,none⟩=some (.slice A0_14 l0_14.length c0_14))∧Hid (Below w.heap.size w w')∧Hid (w.heap.size<w'.heap.size))
  case atStart=>exact⟨1,0,0,rfl,rfl,rfl,H',Lib.hid (Nat.le_refl _),HX0,HX14,HB2,Lib.hid hsz⟩
  case round=>
   clear H' HX0 HX14 HB2 hsz HG
   obtain⟨x7,x8,x21,rfl,rfl,rfl,HA,HK,HX0,HX14,HB,HZ⟩:=hrel
   cases gk with
   |zero=>exact absurd HA.out (by simp [spec_l4Size.l0])
   |succ k1=>
    have H:=HA.out
    clear HA
    simp only [spec_l4Size.l0]at H
    by_cases c1:x21<(l0_14.length:Int)
    ·rw [if_pos c1]at H
     by_cases c2:0≤x21
     ·rw [if_pos c2,if_pos c1]at H
      have hCr:=Kd.C_below HR.out HB.out
      obtain⟨ad,A14,c14,rfl,y0,y1,y2,y3,y4,y5,y6,y7,y8,y9,y10,y11,y12,y13,y14,l14,g14⟩:=at_T70 hCr x21 c2 c1
      have p1:(0≤x21)=True:=eq_true c2
      have p2:(x21<(l0_14.length:Int))=True:=eq_true c1
      have b1:decide (x21<(l0_14.length:Int))=true:=decide_eq_true c1
      have hx0:=HX0.out;have hx14:=HX14.out;have hsz:=HZ.out
      have L14:=Lib.hid l14;have G14:=Lib.hid g14;clear l14 g14 hCr c1 c2
      generalize rd_T70 l0_14 x21=X at *
      obtain⟨⟨n0,n1,⟨n2,n3,n4⟩,⟨n5,n6,n7,n8⟩,⟨n9,n10,n11,n12⟩,n13⟩,ks⟩:=X
      simp only at y0 y1 y2 y3 y4 y5 y6 y7 y8 y9 y10 y11 y12 y13 y14 L14 G14 H
      obtain⟨bm,hbm⟩:∃ bm:Bool,decide ((l0_14.length:Int) > 1)=bm:=⟨_,rfl⟩
      rw [hbm]at H
      have q1:decide (1<(l0_14.length:Int))=bm:=hbm
      have q2:decide (1<l0_14.length)=bm:=by rw [←hbm];congr 1;exact propext ⟨fun h=>by omega,fun h=>by omega⟩
      clear hbm
      by_cases h11:a0_0=11
      ·rw [if_pos h11]at H
       have f11:(a0_0==11)=true:=beq_iff_eq.mpr h11
       clear h11
       obtain⟨⟨t1,t2,t3⟩,hA,H⟩:=Option.bind_eq_some_iff.mp H
       simp only at H
       have HA:=Lib.hid hA;clear hA
       cases t3 with
       |true=>
        simp only [if_true]at H
        obtain⟨mx,hM,H⟩:=Option.bind_eq_some_iff.mp H
        have HM:=Lib.hid hM;have H':=Lib.hid H;clear hM H
        go_wp2_with fail
        refine(ih k1 (by have:=HK.out;omega) n0 n1 n2 n3 n4 n5 n6 n7 n8 n9 n10 n11 n12 n13 A14 c14 ks bm t1 t2 true _ (Kd.C_below G14.out (z2q (Below.refl _ _) _)) L14.out HA.out).mono ?_;rintro e w3 ⟨rfl,hb⟩
        have HX0':=Lib.hid (z9q hb (z9q (z2q (Below.refl _ _) _) HX0.out))
        have HX14':=Lib.hid (z9q hb (z9q (z2q (Below.refl _ _) _) HX14.out))
        have HB3:=Lib.hid (z5q (z2q HB.out _) hb)
        have HZ3:=Lib.hid (Nat.lt_of_lt_of_le HZ.out (Nat.le_trans (z2q (Below.refl wr.heap.size wr) _).size hb.size))
        clear hb hx0 hx14 hsz y0 y1 y2 y3 y4 y5 y6 y7 y8 y9 y10 y11 y12 y13 y14
        go_wp2_with fail
        refine(spec_l3Max.calls _ _ _ _ HM.out).mono ?_;rintro e w4 ⟨rfl,⟨m4,rfl⟩⟩
        go_wp2_with fail
        go_roundg k1
        case measure=>have:=HK.out;omega
        case rel=>exact⟨wrap64 (x7+t1),mx,wrap64 (x21+1),(by first|rfl|(simp;done)),rfl,(by first|rfl|(simp;done)),H',Lib.hid (by have:=HK.out;omega),Lib.hid (by first|exact HX0'.out|exact HX0'.out),Lib.hid HX14'.out,Lib.hid (z3q HB3.out _),Lib.hid HZ3.out⟩
       |false=>
        simp only [Bool.false_eq_true,if_false]at H
        injection H with H;injection H with e1 H;injection H with e2 e3;subst e1;subst e2;subst e3
        go_wp2_with fail
        refine(ih k1 (by have:=HK.out;omega) n0 n1 n2 n3 n4 n5 n6 n7 n8 n9 n10 n11 n12 n13 A14 c14 ks bm t1 t2 false _ (Kd.C_below G14.out (z2q (Below.refl _ _) _)) L14.out HA.out).mono ?_;rintro e w3 ⟨rfl,hb⟩
        have HB3:=Lib.hid (z5q (z2q HB.out _) hb)
        clear hb hx0 hx14 hsz y0 y1 y2 y3 y4 y5 y6 y7 y8 y9 y10 y11 y12 y13 y14
        go_wp2_with fail
        go_ret3
        exact⟨rfl,HB3.out⟩
      ·rw [if_neg h11]at H
       have f11:(a0_0==11)=false:=beq_eq_false_iff_ne.mpr h11
       clear h11 q1 q2
       obtain⟨⟨t1,t2,t3⟩,hA,H⟩:=Option.bind_eq_some_iff.mp H
       simp only at H
       have HA:=Lib.hid hA;clear hA
       cases t3 with
       |true=>
        simp only [if_true]at H
        obtain⟨mx,hM,H⟩:=Option.bind_eq_some_iff.mp H
        have HM:=Lib.hid hM;have H':=Lib.hid H;clear hM H
        go_wp2_with fail
        refine(ih k1 (by have:=HK.out;omega) n0 n1 n2 n3 n4 n5 n6 n7 n8 n9 n10 n11 n12 n13 A14 c14 ks false t1 t2 true _ (Kd.C_below G14.out (z2q (Below.refl _ _) _)) L14.out HA.out).mono ?_;rintro e w3 ⟨rfl,hb⟩
        have HX0':=Lib.hid (z9q hb (z9q (z2q (Below.refl _ _) _) HX0.out))
        have HX14':=Lib.hid (z9q hb (z9q (z2q (Below.refl _ _) _) HX14.out))
        have HB3:=Lib.hid (z5q (z2q HB.out _) hb)
        have HZ3:=Lib.hid (Nat.lt_of_lt_of_le HZ.out (Nat.le_trans (z2q (Below.refl wr.heap.size wr) _).size hb.size))
        clear hb hx0 hx14 hsz y0 y1 y2 y3 y4 y5 y6 y7 y8 y9 y10 y11 y12 y13 y14
        go_wp2_with fail
        refine(spec_l3Max.calls _ _ _ _ HM.out).mono ?_;rintro e w4 ⟨rfl,⟨m4,rfl⟩⟩
        go_wp2_with fail
        go_roundg k1
        case measure=>have:=HK.out;omega
        case rel=>exact⟨wrap64 (x7+t1),mx,wrap64 (x21+1),(by first|rfl|(simp;done)),rfl,(by first|rfl|(simp;done)),H',Lib.hid (by have:=HK.out;omega),Lib.hid (by first|exact HX0'.out|exact HX0'.out),Lib.hid HX14'.out,Lib.hid (z3q HB3.out _),Lib.hid HZ3.out⟩
       |false=>
        simp only [Bool.false_eq_true,if_false]at H
        injection H with H;injection H with e1 H;injection H with e2 e3;subst e1;subst e2;subst e3
        go_wp2_with fail
        refine(ih k1 (by have:=HK.out;omega) n0 n1 n2 n3 n4 n5 n6 n7 n8 n9 n10 n11 n12 n13 A14 c14 ks false t1 t2 false _ (Kd.C_below G14.out (z2q (Below.refl _ _) _)) L14.out HA.out).mono ?_;rintro e w3 ⟨rfl,hb⟩
        have HB3:=Lib.hid (z5q (z2q HB.out _) hb)
        clear hb hx0 hx14 hsz y0 y1 y2 y3 y4 y5 y6 y7 y8 y9 y10 y11 y12 y13 y14
        go_wp2_with fail
        go_ret3
        exact⟨rfl,HB3.out⟩
     ·rw [if_neg c2]at H;cases H
    ·rw [if_neg c1]at H
     have b1:decide (x21<(l0_14.length:Int))=false:=decide_eq_false c1
     clear c1
     injection H with H;injection H with e1 H;injection H with e2 e3;subst e1;subst e2;subst e3
     go_wp2_with fail
     go_ret3
     exact⟨rfl,HB.out⟩

/-! ### spec_l4Good: function 71 -/

def spec_l4Good.f (k:Nat) (a0_0:Int) (a0_1:ByteArray) (a0_2:Bool) (a0_3:Int) (a0_4:Int) (a0_5:Int) (a0_6:Int) (a0_7:Bool) (a0_8:Bool) (a0_9:Int) (a0_10:Int) (a0_11:Bool) (a0_12:Bool) (a0_13:Int) (l0_14:List (S70)):Option (Bool):=(spec_l4Size.f k a0_0 a0_1 a0_2 a0_3 a0_4 a0_5 a0_6 a0_7 a0_8 a0_9 a0_10 a0_11 a0_12 a0_13 l0_14 false).bind fun bt338=>(if bt338.2.2=true then(if bt338.1≤300 then(some (decide (bt338.2.1≤40)))else(some false))else(some false))

set_option maxHeartbeats 8000000 in
set_option maxRecDepth 100000 in
theorem spec_l4Good.calls (k:Nat) (a0_0:Int) (a0_1:ByteArray) (a0_2:Bool) (a0_3:Int) (a0_4:Int) (a0_5:Int) (a0_6:Int) (a0_7:Bool) (a0_8:Bool) (a0_9:Int) (a0_10:Int) (a0_11:Bool) (a0_12:Bool) (a0_13:Int) (A0_14:Option Addr) (c0_14:Nat) (l0_14:List (S70)) (r:Bool) (w:World) (hr0_14:Kd.C k70 w A0_14 l0_14.length l0_14) (hc0_14:l0_14.length≤c0_14) (h:spec_l4Good.f k a0_0 a0_1 a0_2 a0_3 a0_4 a0_5 a0_6 a0_7 a0_8 a0_9 a0_10 a0_11 a0_12 a0_13 l0_14=some r):
  Calls Tryz.prog 71 #[.agg #[.int .i64 a0_0,.string a0_1,.bool a0_2,.int .i64 a0_3,.int .i64 a0_4,.int .i64 a0_5,.int .i64 a0_6,.bool a0_7,.bool a0_8,.int .i64 a0_9,.int .i64 a0_10,.bool a0_11,.bool a0_12,.int .i64 a0_13,.slice A0_14 l0_14.length c0_14]] w fun e w'=>e= .returned (.bool r)∧Below w.heap.size w w':=by
 have hu70:=Tryz.underlying70
 have HR0_14:=Aside0.mk hr0_14
 have HC0_14:=Aside0.mk hc0_14
 clear hr0_14 hc0_14
 have HB:=Aside0.mk (Below.refl w.heap.size w)
 have H:((spec_l4Size.f k a0_0 a0_1 a0_2 a0_3 a0_4 a0_5 a0_6 a0_7 a0_8 a0_9 a0_10 a0_11 a0_12 a0_13 l0_14 false).bind fun bt338=>(if bt338.2.2=true then(if bt338.1≤300 then(some (decide (bt338.2.1≤40)))else(some false))else(some false)))=some r:=h
 clear h
 replace H:=Option.bind_eq_some_iff.mp H
 obtain⟨⟨t338,t339,t340⟩,A20,H⟩:=H
 replace H:(if t340=true then(if t338≤300 then(some (decide (t339≤40)))else(some false))else(some false))=some r:=H
 have A2:=Aside0.mk A20
 clear A20
 by_cases c3:t340=true
 ·subst c3
  have H1:(if t338≤300 then(some (decide (t339≤40)))else(some false))=some r:=by rw [if_pos rfl]at H;exact H
  clear H
  have H:=H1
  clear H1
  by_cases c4:t338≤300
  ·rw [if_pos c4]at H
   have c4b0:decide (t338≤300)=true:=decide_eq_true c4
   clear c4
   obtain rfl:=Option.some.inj H
   go_enter Tryz.func71,Tryz.ntmps71
   go_wp2_with (first|((with_reducible refine z15q (N:=1) rfl ?_);refine z13q ?hg (N:=1) ?hd (cs:=#[.int .i64 a0_0,.string a0_1,.bool a0_2,.int .i64 a0_3,.int .i64 a0_4,.int .i64 a0_5,.int .i64 a0_6,.bool a0_7,.bool a0_8,.int .i64 a0_9,.int .i64 a0_10,.bool a0_11,.bool a0_12,.int .i64 a0_13,.slice A0_14 l0_14.length c0_14]) (t:=70) ?hr ?_;(case hd=>rfl);(case hg=>rfl);(case hr=>first|(go_simp;done)|(go_simp;rfl));intro gb337 hg w5 hbox hb;have n0_:=Aside0.mk (z5q (ibh HB.out) hb);have n1_:=Aside0.mk (hbox);have n2_:=Aside0.mk ((by rw [hg];exact(z6q (ibh HB.out)):w.heap.size≤gb337));have n3_:=Aside0.mk ((by rw [hg];exact(z6q (ibh HB.out)):w.heap.size≤gb337));clear HB;have HB:=n0_;have BK337:=n1_;have GW337:=n2_;have GE337:=n3_;clear n0_ n1_ n2_ n3_;clear hb hbox hg;obtain⟨hcz6_0,hcz6_1,hcz6_2,hcz6_3,hcz6_4,hcz6_5,hcz6_6,hcz6_7,hcz6_8,hcz6_9,hcz6_10,hcz6_11,hcz6_12,hcz6_13,hcz6_14,hfz6_0,hfz6_1,hfz6_2,hfz6_3,hfz6_4,hfz6_5,hfz6_6,hfz6_7,hfz6_8,hfz6_9,hfz6_10,hfz6_11,hfz6_12,hfz6_13,hfz6_14⟩:=cr15 (w:=w5) (g:=gb337) BK337.out)|((with_reducible refine z8q (f:=94) rfl ?_);refine z17q (some 8) rfl rfl Tryz.func94 (by kernel_rfl) rfl #[.agg #[.int .i64 a0_0,.string a0_1,.bool a0_2,.int .i64 a0_3,.int .i64 a0_4,.int .i64 a0_5,.int .i64 a0_6,.bool a0_7,.bool a0_8,.int .i64 a0_9,.int .i64 a0_10,.bool a0_11,.bool a0_12,.int .i64 a0_13,.slice A0_14 l0_14.length c0_14],.bool false] rfl (by(try simp only [map_toArray,map_cons,map_nil]);first|done|rfl|(simp only [length_drop,length_take];rfl)) ?_;(with_reducible refine(spec_l4Size.calls k a0_0 a0_1 a0_2 a0_3 a0_4 a0_5 a0_6 a0_7 a0_8 a0_9 a0_10 a0_11 a0_12 a0_13 _ _ l0_14 false t338 t339 true _ ?side1 ?side2 A2.out).mono ?_);(case side1=>repeat(first|exact(Kd.C_below HR0_14.out HB.out)|(with_reducible refine Kd.C_alloc ?_ _)|(with_reducible refine Kd.C_drewN ?_ _)|(with_reducible refine Kd.C_drew ?_)));(case side2=>exact HC0_14.out);rintro e w7 ⟨rfl,hb⟩;refine⟨_,rfl,?_⟩;have n0_:=Aside0.mk (z12q (cy BK337.out) hb);have n1_:=Aside0.mk (z5q (ibh HB.out) hb);clear BK337;clear HB;have BK337:=n0_;have HB:=n1_;clear n0_ n1_;(try clear hb);(try clear hb2);(try clear hk);(try clear hi)))
   go_ret
   exact⟨by first|rfl|(simp [errW_none,errW_some]<;>rfl)|(simp [*,errW_none,errW_some]<;>rfl),by repeat(first|(with_reducible first|exact HB.out|apply z2q|apply z3q|apply z4q|refine z7q ?_ GE337.out)|exact HB.out)⟩
  ·rw [if_neg c4]at H
   have c4b0:decide (t338≤300)=false:=decide_eq_false c4
   clear c4
   obtain rfl:=Option.some.inj H
   go_enter Tryz.func71,Tryz.ntmps71
   go_wp2_with (first|((with_reducible refine z15q (N:=1) rfl ?_);refine z13q ?hg (N:=1) ?hd (cs:=#[.int .i64 a0_0,.string a0_1,.bool a0_2,.int .i64 a0_3,.int .i64 a0_4,.int .i64 a0_5,.int .i64 a0_6,.bool a0_7,.bool a0_8,.int .i64 a0_9,.int .i64 a0_10,.bool a0_11,.bool a0_12,.int .i64 a0_13,.slice A0_14 l0_14.length c0_14]) (t:=70) ?hr ?_;(case hd=>rfl);(case hg=>rfl);(case hr=>first|(go_simp;done)|(go_simp;rfl));intro gb337 hg w8 hbox hb;have n0_:=Aside0.mk (z5q (ibh HB.out) hb);have n1_:=Aside0.mk (hbox);have n2_:=Aside0.mk ((by rw [hg];exact(z6q (ibh HB.out)):w.heap.size≤gb337));have n3_:=Aside0.mk ((by rw [hg];exact(z6q (ibh HB.out)):w.heap.size≤gb337));clear HB;have HB:=n0_;have BK337:=n1_;have GW337:=n2_;have GE337:=n3_;clear n0_ n1_ n2_ n3_;clear hb hbox hg;obtain⟨hcz9_0,hcz9_1,hcz9_2,hcz9_3,hcz9_4,hcz9_5,hcz9_6,hcz9_7,hcz9_8,hcz9_9,hcz9_10,hcz9_11,hcz9_12,hcz9_13,hcz9_14,hfz9_0,hfz9_1,hfz9_2,hfz9_3,hfz9_4,hfz9_5,hfz9_6,hfz9_7,hfz9_8,hfz9_9,hfz9_10,hfz9_11,hfz9_12,hfz9_13,hfz9_14⟩:=cr15 (w:=w8) (g:=gb337) BK337.out)|((with_reducible refine z8q (f:=94) rfl ?_);refine z17q (some 8) rfl rfl Tryz.func94 (by kernel_rfl) rfl #[.agg #[.int .i64 a0_0,.string a0_1,.bool a0_2,.int .i64 a0_3,.int .i64 a0_4,.int .i64 a0_5,.int .i64 a0_6,.bool a0_7,.bool a0_8,.int .i64 a0_9,.int .i64 a0_10,.bool a0_11,.bool a0_12,.int .i64 a0_13,.slice A0_14 l0_14.length c0_14],.bool false] rfl (by(try simp only [map_toArray,map_cons,map_nil]);first|done|rfl|(simp only [length_drop,length_take];rfl)) ?_;(with_reducible refine(spec_l4Size.calls k a0_0 a0_1 a0_2 a0_3 a0_4 a0_5 a0_6 a0_7 a0_8 a0_9 a0_10 a0_11 a0_12 a0_13 _ _ l0_14 false t338 t339 true _ ?side1 ?side2 A2.out).mono ?_);(case side1=>repeat(first|exact(Kd.C_below HR0_14.out HB.out)|(with_reducible refine Kd.C_alloc ?_ _)|(with_reducible refine Kd.C_drewN ?_ _)|(with_reducible refine Kd.C_drew ?_)));(case side2=>exact HC0_14.out);rintro e w10 ⟨rfl,hb⟩;refine⟨_,rfl,?_⟩;have n0_:=Aside0.mk (z12q (cy BK337.out) hb);have n1_:=Aside0.mk (z5q (ibh HB.out) hb);clear BK337;clear HB;have BK337:=n0_;have HB:=n1_;clear n0_ n1_;(try clear hb);(try clear hb2);(try clear hk);(try clear hi)))
   go_ret
   exact⟨by first|rfl|(simp [errW_none,errW_some]<;>rfl)|(simp [*,errW_none,errW_some]<;>rfl),by repeat(first|(with_reducible first|exact HB.out|apply z2q|apply z3q|apply z4q|refine z7q ?_ GE337.out)|exact HB.out)⟩
 ·replace c3:=Bool.eq_false_iff.mpr c3
  subst c3
  have H1:(some false)=some r:=by rw [if_neg (show ¬ (false=true)by decide)]at H;exact H
  clear H
  have H:=H1
  clear H1
  obtain rfl:=Option.some.inj H
  go_enter Tryz.func71,Tryz.ntmps71
  go_wp2_with (first|((with_reducible refine z15q (N:=1) rfl ?_);refine z13q ?hg (N:=1) ?hd (cs:=#[.int .i64 a0_0,.string a0_1,.bool a0_2,.int .i64 a0_3,.int .i64 a0_4,.int .i64 a0_5,.int .i64 a0_6,.bool a0_7,.bool a0_8,.int .i64 a0_9,.int .i64 a0_10,.bool a0_11,.bool a0_12,.int .i64 a0_13,.slice A0_14 l0_14.length c0_14]) (t:=70) ?hr ?_;(case hd=>rfl);(case hg=>rfl);(case hr=>first|(go_simp;done)|(go_simp;rfl));intro gb337 hg w11 hbox hb;have n0_:=Aside0.mk (z5q (ibh HB.out) hb);have n1_:=Aside0.mk (hbox);have n2_:=Aside0.mk ((by rw [hg];exact(z6q (ibh HB.out)):w.heap.size≤gb337));have n3_:=Aside0.mk ((by rw [hg];exact(z6q (ibh HB.out)):w.heap.size≤gb337));clear HB;have HB:=n0_;have BK337:=n1_;have GW337:=n2_;have GE337:=n3_;clear n0_ n1_ n2_ n3_;clear hb hbox hg;obtain⟨hcz12_0,hcz12_1,hcz12_2,hcz12_3,hcz12_4,hcz12_5,hcz12_6,hcz12_7,hcz12_8,hcz12_9,hcz12_10,hcz12_11,hcz12_12,hcz12_13,hcz12_14,hfz12_0,hfz12_1,hfz12_2,hfz12_3,hfz12_4,hfz12_5,hfz12_6,hfz12_7,hfz12_8,hfz12_9,hfz12_10,hfz12_11,hfz12_12,hfz12_13,hfz12_14⟩:=cr15 (w:=w11) (g:=gb337) BK337.out)|((with_reducible refine z8q (f:=94) rfl ?_);refine z17q (some 8) rfl rfl Tryz.func94 (by kernel_rfl) rfl #[.agg #[.int .i64 a0_0,.string a0_1,.bool a0_2,.int .i64 a0_3,.int .i64 a0_4,.int .i64 a0_5,.int .i64 a0_6,.bool a0_7,.bool a0_8,.int .i64 a0_9,.int .i64 a0_10,.bool a0_11,.bool a0_12,.int .i64 a0_13,.slice A0_14 l0_14.length c0_14],.bool false] rfl (by(try simp only [map_toArray,map_cons,map_nil]);first|done|rfl|(simp only [length_drop,length_take];rfl)) ?_;(with_reducible refine(spec_l4Size.calls k a0_0 a0_1 a0_2 a0_3 a0_4 a0_5 a0_6 a0_7 a0_8 a0_9 a0_10 a0_11 a0_12 a0_13 _ _ l0_14 false t338 t339 false _ ?side1 ?side2 A2.out).mono ?_);(case side1=>repeat(first|exact(Kd.C_below HR0_14.out HB.out)|(with_reducible refine Kd.C_alloc ?_ _)|(with_reducible refine Kd.C_drewN ?_ _)|(with_reducible refine Kd.C_drew ?_)));(case side2=>exact HC0_14.out);rintro e w13 ⟨rfl,hb⟩;refine⟨_,rfl,?_⟩;have n0_:=Aside0.mk (z12q (cy BK337.out) hb);have n1_:=Aside0.mk (z5q (ibh HB.out) hb);clear BK337;clear HB;have BK337:=n0_;have HB:=n1_;clear n0_ n1_;(try clear hb);(try clear hb2);(try clear hk);(try clear hi)))
  go_ret
  exact⟨by first|rfl|(simp [errW_none,errW_some]<;>rfl)|(simp [*,errW_none,errW_some]<;>rfl),by repeat(first|(with_reducible first|exact HB.out|apply z2q|apply z3q|apply z4q|refine z7q ?_ GE337.out)|exact HB.out)⟩



/-! ### spec_l4Read: function 35 -/

def spec_l4Read.j0:Nat→List (S67)→Bool→Option (Int×ByteArray×Bool×Int×Int×Int×Int×Bool×Bool×Int×Int×Bool×Bool×Int×(List (S70))×Bool)
 |0,_,_=>none
 |k+1,x0,x13=>if x13=true then(some (0,(⟨#[]⟩:ByteArray),false,0,0,0,0,false,false,0,0,false,false,0,([]:List (S70)),false))else((spec_l4Take.f k x0 0 0).bind fun bt342=>(if bt342.2.2.2.2.2.2.2.2.2.2.2.2.2.2.2=(x0.length:Int)then((spec_l4Good.f k bt342.1 bt342.2.1 bt342.2.2.1 bt342.2.2.2.1 bt342.2.2.2.2.1 bt342.2.2.2.2.2.1 bt342.2.2.2.2.2.2.1 bt342.2.2.2.2.2.2.2.1 bt342.2.2.2.2.2.2.2.2.1 bt342.2.2.2.2.2.2.2.2.2.1 bt342.2.2.2.2.2.2.2.2.2.2.1 bt342.2.2.2.2.2.2.2.2.2.2.2.1 bt342.2.2.2.2.2.2.2.2.2.2.2.2.1 bt342.2.2.2.2.2.2.2.2.2.2.2.2.2.1 bt342.2.2.2.2.2.2.2.2.2.2.2.2.2.2.1).bind fun t361=>(some (bt342.1,bt342.2.1,bt342.2.2.1,bt342.2.2.2.1,bt342.2.2.2.2.1,bt342.2.2.2.2.2.1,bt342.2.2.2.2.2.2.1,bt342.2.2.2.2.2.2.2.1,bt342.2.2.2.2.2.2.2.2.1,bt342.2.2.2.2.2.2.2.2.2.1,bt342.2.2.2.2.2.2.2.2.2.2.1,bt342.2.2.2.2.2.2.2.2.2.2.2.1,bt342.2.2.2.2.2.2.2.2.2.2.2.2.1,bt342.2.2.2.2.2.2.2.2.2.2.2.2.2.1,bt342.2.2.2.2.2.2.2.2.2.2.2.2.2.2.1,t361)))else(some (bt342.1,bt342.2.1,bt342.2.2.1,bt342.2.2.2.1,bt342.2.2.2.2.1,bt342.2.2.2.2.2.1,bt342.2.2.2.2.2.2.1,bt342.2.2.2.2.2.2.2.1,bt342.2.2.2.2.2.2.2.2.1,bt342.2.2.2.2.2.2.2.2.2.1,bt342.2.2.2.2.2.2.2.2.2.2.1,bt342.2.2.2.2.2.2.2.2.2.2.2.1,bt342.2.2.2.2.2.2.2.2.2.2.2.2.1,bt342.2.2.2.2.2.2.2.2.2.2.2.2.2.1,bt342.2.2.2.2.2.2.2.2.2.2.2.2.2.2.1,false))))

def spec_l4Read.f (k:Nat) (l0:List (S67)):Option (Int×ByteArray×Bool×Int×Int×Int×Int×Bool×Bool×Int×Int×Bool×Bool×Int×(List (S70))×Bool):=if(l0.length:Int)=0 then(spec_l4Read.j0 k l0 true)else(spec_l4Read.j0 k l0 (decide ((l0.length:Int) > 300)))

end Go.Proofs.YtegdpgpbdcediaaGreatDoor.PFnExactUsedNames
