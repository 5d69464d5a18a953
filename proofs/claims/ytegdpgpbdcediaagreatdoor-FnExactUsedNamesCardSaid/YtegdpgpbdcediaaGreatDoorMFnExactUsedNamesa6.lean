/- Functions of the program as Lean functions, and proofs that the Go code comes to their answers: for the law FnExactUsedNames; made out of the print by a program of mine (compact.py). No conditions but each theorem's own. -/
import Derived.Test.YtegdpgpbdcediaaGreatDoorMFnExactUsedNamesa0
import Derived.Test.YtegdpgpbdcediaaGreatDoorMFnExactUsedNamesa2
import Derived.Test.YtegdpgpbdcediaaGreatDoorMFnExactUsedNamesa3
import Derived.Test.YtegdpgpbdcediaaGreatDoorMFnExactUsedNamesa4
import Derived.Test.YtegdpgpbdcediaaGreatDoorMFnExactUsedNamesa5
namespace Go.Proofs.YtegdpgpbdcediaaGreatDoor.PFnExactUsedNames
open List (map_toArray map_cons map_nil length_drop length_take set_cons_zero set_cons_succ setIfInBounds_toArray)
open Go.RowKit Go.Proofs.YtegdpgpbdcediaaGreatDoorW.PrintWords Go.Proofs.YtegdpgpbdcediaaGreatDoorW.PrintLast Go.Proofs.YtegdpgpbdcediaaGreatDoorW.PrintMore
attribute [local go_sem] max2_int min2_int max_two min_two max_three min_three max_four min_four   -- for this text's walks alone
set_option linter.unusedVariables false
set_option linter.unusedSimpArgs false

attribute [local go_sem high] eqA47 eqA65
set_option maxHeartbeats 8000000 in
set_option maxRecDepth 100000 in
theorem spec_ReadRef.calls_p1 (k:Nat) (a0:ByteArray) (r1:Int) (r2:Int) (r3:Bool) (r4:Bool) (r5:Bool) (w:World) (H:(if 0<(a0.size:Int)then(spec_ReadRef.j0 k a0 0 ((bt a0 0)==36) 0 0 false false)else(spec_ReadRef.j0 k a0 0 false 0 0 false false))=some (r1,r2,r3,r4,r5)):
  Calls Tryz.prog 133 #[.string a0] w fun e w'=>e= .returned (.tuple #[.agg #[.int .i64 r1,.int .i64 r2,.bool r3,.bool r4],.bool r5])∧Below w.heap.size w w':=by
 have hu47:=Tryz.underlying47
 have HB:=Aside0.mk (Below.refl w.heap.size w)
 have HC2:=Aside0.mk H
 clear H
 go_enter Tryz.func133,Tryz.ntmps133
 go_upto_region 3 with (first|((with_reducible refine z15q (N:=2) rfl ?_);refine z13q ?hg (N:=2) ?hd (cs:=#[.int .i64 0,.int .i64 0,.bool false,.bool false]) (t:=47) ?hr ?_;(case hd=>rfl);(case hg=>rfl);(case hr=>first|(go_simp;done)|(go_simp;rfl));intro gb300 hg w3 hbox hb;have n0_:=Aside0.mk (z5q (ibh HB.out) hb);have n1_:=Aside0.mk (hbox);have n2_:=Aside0.mk ((by rw [hg];exact(z6q (ibh HB.out)):w.heap.size≤gb300));have n3_:=Aside0.mk ((by rw [hg];exact(z6q (ibh HB.out)):w.heap.size≤gb300));clear HB;have HB:=n0_;have BK300:=n1_;have GW300:=n2_;have GE300:=n3_;clear n0_ n1_ n2_ n3_;clear hb hbox hg)|((with_reducible refine z15q (N:=4) rfl ?_);refine z13q ?hg (N:=4) ?hd (cs:=#[.int .i64 0,.int .i64 0,.bool false,.bool false]) (t:=47) ?hr ?_;(case hd=>rfl);(case hg=>rfl);(case hr=>first|(go_simp;done)|(go_simp;rfl));intro gb301 hg w4 hbox hb;have n0_:=Aside0.mk (z12q (cy BK300.out) hb);have n1_:=Aside0.mk (z5q (ibh HB.out) hb);have n2_:=Aside0.mk (hbox);have n3_:=Aside0.mk ((by rw [hg];exact(z6q (ibh HB.out)):w.heap.size≤gb301));have n4_:=Aside0.mk ((by rw [hg];exact(z6q (ibh HB.out)):w.heap.size≤gb301));have n5_:=Aside0.mk ((by rw [hg];exact Nat.ne_of_lt (z20q (cy BK300.out)):gb300≠gb301));have n6_:=Aside0.mk ((by rw [hg];exact Nat.ne_of_gt (z20q (cy BK300.out)):gb301≠gb300));clear BK300;clear HB;have BK300:=n0_;have HB:=n1_;have BK301:=n2_;have GW301:=n3_;have GE301:=n4_;have NB300_301:=n5_;have NB301_300:=n6_;clear n0_ n1_ n2_ n3_ n4_ n5_ n6_;clear hb hbox hg;have hnb5:=NB301_300.out;have hnc5:=NB300_301.out;obtain⟨hcz6_0,hcz6_1,hcz6_2,hcz6_3,hfz6_0,hfz6_1,hfz6_2,hfz6_3⟩:=cr4 (w:=w4) (g:=gb301) BK301.out))
 (try simp only [Act.put,setIfInBounds_toArray,set_cons_zero,set_cons_succ])
 go_cut [17] (fun v17 wc=>∃ (kq:Nat) (x17_1:Bool),v17= .bool x17_1∧Aside0 (spec_ReadRef.j0 kq a0 0 x17_1 0 0 false false=some (r1,r2,r3,r4,r5))∧Aside0 (kq≤k)∧Aside0 (wc.heap[gb300]? =some (.cells #[.int .i64 0,.int .i64 0,.bool false,.bool false] 47 (0,0)))∧Aside0 (wc.heap[gb301]? =some (.cells #[.int .i64 0,.int .i64 0,.bool false,.bool false] 47 (0,0)))∧Aside0 (Below w.heap.size w wc))
 case first=>
  have H:=HC2.out
  clear HC2
  by_cases c7:0<(a0.size:Int)
  ·rw [if_pos c7]at H
   have c7b0:decide (0<(a0.size:Int))=true:=decide_eq_true c7
   have c7b1:decide (0<a0.size)=true:=decide_eq_true (by omega)
   clear c7
   (first|rw [c7b0]|(simp only [i64_w,i32_w];rw [c7b0])|skip)
   have H':=Aside0.mk H
   clear H
   have p8:0≤(0:Int):=(by omega)
   have q8:0<a0.size:=(by have:(0:Int)<(a0.size:Int):=of_decide_eq_true (by first|(with_reducible assumption)|assumption);omega)
   have hx8:∀ h:0<a0.size,((a0[0]'h).toNat:Int)=bt a0 0:=bt_at a0 0
   clear p8
   have qi8:(0<(a0.size:Int))=True:=eq_true (of_decide_eq_true (by first|(with_reducible assumption)|assumption))
   replace q8:=eq_true q8
   go_wp2
   go_meet
   case rel=>exact⟨_,(((bt a0 0)==36)),(by first|rfl|(simp;done)|(simp [*];done)|(simp;unfold wrap64;omega)),H',⟨by first|omega|exact Nat.le_refl _⟩,⟨by(with_reducible repeat(first|refine z14q ?_ _|refine z16q ?_|refine z10q ?_ _));refine blk_far ?_ NB300_301.out _;(with_reducible repeat(first|refine z14q ?_ _|refine z16q ?_|refine z10q ?_ _));refine blk_far ?_ NB300_301.out _;(with_reducible repeat(first|refine z14q ?_ _|refine z16q ?_|refine z10q ?_ _));refine blk_far ?_ NB300_301.out _;(with_reducible repeat(first|refine z14q ?_ _|refine z16q ?_|refine z10q ?_ _));refine blk_far ?_ NB300_301.out _;(with_reducible repeat(first|refine z14q ?_ _|refine z16q ?_|refine z10q ?_ _));exact BK300.out⟩,⟨by refine cz ?_;refine z11q (cs:=#[.int .i64 0,.int .i64 0,.bool false,.bool false]) ?_ 3 _ rfl;refine cz ?_;refine z11q (cs:=#[.int .i64 0,.int .i64 0,.bool false,.bool false]) ?_ 2 _ rfl;refine cz ?_;refine z11q (cs:=#[.int .i64 0,.int .i64 0,.bool false,.bool false]) ?_ 1 _ rfl;refine cz ?_;refine z11q (cs:=#[.int .i64 0,.int .i64 0,.bool false,.bool false]) ?_ 0 _ rfl;(with_reducible repeat(first|refine z14q ?_ _|refine z16q ?_|refine z10q ?_ _));exact BK301.out⟩,⟨by repeat(first|(with_reducible first|exact HB.out|apply z2q|apply z3q|apply z4q|refine z7q ?_ GE300.out|refine z7q ?_ GE301.out)|exact HB.out)⟩⟩
  ·rw [if_neg c7]at H
   have c7b0:decide (0<(a0.size:Int))=false:=decide_eq_false c7
   have c7b1:decide (0<a0.size)=false:=decide_eq_false (by omega)
   clear c7
   (first|rw [c7b0]|(simp only [i64_w,i32_w];rw [c7b0])|skip)
   have H':=Aside0.mk H
   clear H
   go_wp2
   go_meet
   case rel=>exact⟨_,(false),(by first|rfl|(simp;done)|(simp [*];done)|(simp;unfold wrap64;omega)),H',⟨by first|omega|exact Nat.le_refl _⟩,⟨by(with_reducible repeat(first|refine z14q ?_ _|refine z16q ?_|refine z10q ?_ _));refine blk_far ?_ NB300_301.out _;(with_reducible repeat(first|refine z14q ?_ _|refine z16q ?_|refine z10q ?_ _));refine blk_far ?_ NB300_301.out _;(with_reducible repeat(first|refine z14q ?_ _|refine z16q ?_|refine z10q ?_ _));refine blk_far ?_ NB300_301.out _;(with_reducible repeat(first|refine z14q ?_ _|refine z16q ?_|refine z10q ?_ _));refine blk_far ?_ NB300_301.out _;(with_reducible repeat(first|refine z14q ?_ _|refine z16q ?_|refine z10q ?_ _));exact BK300.out⟩,⟨by refine cz ?_;refine z11q (cs:=#[.int .i64 0,.int .i64 0,.bool false,.bool false]) ?_ 3 _ rfl;refine cz ?_;refine z11q (cs:=#[.int .i64 0,.int .i64 0,.bool false,.bool false]) ?_ 2 _ rfl;refine cz ?_;refine z11q (cs:=#[.int .i64 0,.int .i64 0,.bool false,.bool false]) ?_ 1 _ rfl;refine cz ?_;refine z11q (cs:=#[.int .i64 0,.int .i64 0,.bool false,.bool false]) ?_ 0 _ rfl;(with_reducible repeat(first|refine z14q ?_ _|refine z16q ?_|refine z10q ?_ _));exact BK301.out⟩,⟨by repeat(first|(with_reducible first|exact HB.out|apply z2q|apply z3q|apply z4q|refine z7q ?_ GE300.out|refine z7q ?_ GE301.out)|exact HB.out)⟩⟩
 case rest=>
  clear HC2
  try clear c1
  try clear p2
  try clear c5
  try clear c7
  try clear c7b0
  try clear c7b1
  try clear p8
  try clear q8
  try clear hx8
  try clear qi8
  try clear hcz6_0
  try clear hcz6_1
  try clear hcz6_2
  try clear hcz6_3
  try clear hfz6_0
  try clear hfz6_1
  try clear hfz6_2
  try clear hfz6_3
  try clear p8
  try clear q8
  obtain⟨kq,x17_1,rfl,HA,HJ1,BK300,BK301,HB⟩:=hcut
  cases kq with
  |zero=>exact absurd HA.out (by simp [spec_ReadRef.j0])
  |succ kj1=>
   have H:=HA.out
   clear HA
   simp only [spec_ReadRef.j0]at H
   have HC9:=Aside0.mk H
   clear H
   go_upto_if 17 with (fail)
   go_cut [5] (fun v5 wc=>∃ (kq:Nat) (x5_8:Int) (x302003_8:Bool),v5= .int .i64 x5_8∧Aside0 (spec_ReadRef.j1 kq a0 x5_8 0 0 false x302003_8=some (r1,r2,r3,r4,r5))∧Aside0 (kq≤kj1)∧Aside0 (wc.heap[gb300]? =some (.cells #[.int .i64 0,.int .i64 0,.bool false,.bool false] 47 (0,0)))∧Aside0 (wc.heap[gb301]? =some (.cells #[.int .i64 0,.int .i64 0,.bool false,.bool x302003_8] 47 (0,0)))∧Aside0 (Below w.heap.size w wc))
   case first=>
    have H:=HC9.out
    clear HC9
    by_cases c10:x17_1=true
    ·subst c10
     have H1:(spec_ReadRef.j1 kj1 a0 (wrap64 (0+1)) 0 0 false true)=some (r1,r2,r3,r4,r5):=by rw [if_pos rfl]at H;exact H
     clear H
     have H:=H1
     clear H1
     have H':=Aside0.mk H
     clear H
     have hnb11:=NB301_300.out
     have hnc11:=NB300_301.out
     obtain⟨hcz12_0,hcz12_1,hcz12_2,hcz12_3,hfz12_0,hfz12_1,hfz12_2,hfz12_3⟩:=cr4 (w:=wc) (g:=gb301) BK301.out
     go_wp2
     go_meet
     case rel=>exact⟨_,(wrap64 (0+1)),(true),(by first|rfl|(simp;done)|(simp [*];done)|(simp;unfold wrap64;omega)),H',⟨by have:=HJ1.out;first|omega|exact Nat.le_refl _⟩,⟨by(with_reducible repeat(first|refine z14q ?_ _|refine z16q ?_|refine z10q ?_ _));refine blk_far ?_ NB300_301.out _;(with_reducible repeat(first|refine z14q ?_ _|refine z16q ?_|refine z10q ?_ _));exact BK300.out⟩,⟨by refine cz ?_;refine z11q (cs:=#[.int .i64 0,.int .i64 0,.bool false,.bool false]) ?_ 3 _ rfl;(with_reducible repeat(first|refine z14q ?_ _|refine z16q ?_|refine z10q ?_ _));exact BK301.out⟩,⟨by repeat(first|(with_reducible first|exact HB.out|apply z2q|apply z3q|apply z4q|refine z7q ?_ GE300.out|refine z7q ?_ GE301.out)|exact HB.out)⟩⟩
    ·replace c10:=Bool.eq_false_iff.mpr c10
     subst c10
     have H1:(spec_ReadRef.j1 kj1 a0 0 0 0 false false)=some (r1,r2,r3,r4,r5):=by rw [if_neg (show ¬ (false=true)by decide)]at H;exact H
     clear H
     have H:=H1
     clear H1
     have H':=Aside0.mk H
     clear H
     go_wp2
     go_meet
     case rel=>exact⟨_,(0),(false),(by first|rfl|(simp;done)|(simp [*];done)|(simp;unfold wrap64;omega)),H',⟨by have:=HJ1.out;first|omega|exact Nat.le_refl _⟩,⟨by(with_reducible repeat(first|refine z14q ?_ _|refine z16q ?_|refine z10q ?_ _));exact BK300.out⟩,⟨by(with_reducible repeat(first|refine z14q ?_ _|refine z16q ?_|refine z10q ?_ _));exact BK301.out⟩,⟨by repeat(first|(with_reducible first|exact HB.out|apply z2q|apply z3q|apply z4q|refine z7q ?_ GE300.out|refine z7q ?_ GE301.out)|exact HB.out)⟩⟩
   case rest=>
    clear HC9
    try clear c1
    try clear p2
    try clear c5
    try clear p6
    try clear c7
    try clear c7b0
    try clear c7b1
    try clear p8
    try clear q8
    try clear hx8
    try clear qi8
    try clear c10
    try clear c11
    try clear hcz12_0
    try clear hcz12_1
    try clear hcz12_2
    try clear hcz12_3
    try clear hcz6_0
    try clear hcz6_1
    try clear hcz6_2
    try clear hcz6_3
    try clear hfz12_0
    try clear hfz12_1
    try clear hfz12_2
    try clear hfz12_3
    try clear hfz6_0
    try clear hfz6_1
    try clear hfz6_2
    try clear hfz6_3
    try clear p2
    try clear p8
    try clear q8
    obtain⟨kq,x5_8,x302003_8,rfl,HA,HJ8,BK300,BK301,HB⟩:=hcut
    cases kq with
    |zero=>exact absurd HA.out (by simp [spec_ReadRef.j1])
    |succ kj8=>
     have H:=HA.out
     clear HA
     simp only [spec_ReadRef.j1]at H
     have HC13:=Aside0.mk H
     clear H
     go_upto_block 0 with (fail)
     go_cut [5] (fun v5 wc=>∃ (kq:Nat) (x5_12:Int),v5= .int .i64 x5_12∧Aside0 (spec_ReadRef.j3 kq a0 x5_12 x5_8 0 0 false x302003_8=some (r1,r2,r3,r4,r5))∧Aside0 (kq≤kj8)∧Aside0 (wc.heap[gb300]? =some (.cells #[.int .i64 0,.int .i64 0,.bool false,.bool false] 47 (0,0)))∧Aside0 (wc.heap[gb301]? =some (.cells #[.int .i64 0,.int .i64 0,.bool false,.bool x302003_8] 47 (0,0)))∧Aside0 (Below w.heap.size w wc))
     case first=>
      have H:=HC13.out
      clear HC13
      have H':=Aside0.mk H
      clear H
      go_wp2
      go_loopg [5] kj8 (fun kq v5 w'=>∃ (x5_3:Int),v5= .int .i64 x5_3∧Aside0 (spec_ReadRef.l0 kq a0 x5_3 x5_8 0 0 false x302003_8=some (r1,r2,r3,r4,r5))∧Aside0 (kq≤kj8)∧Aside0 (w'.heap[gb300]? =some (.cells #[.int .i64 0,.int .i64 0,.bool false,.bool false] 47 (0,0)))∧Aside0 (w'.heap[gb301]? =some (.cells #[.int .i64 0,.int .i64 0,.bool false,.bool x302003_8] 47 (0,0)))∧Aside0 (Below w.heap.size w w'))
      case atStart=>exact⟨(x5_8),(by first|rfl|(simp;done)|(simp [*];done)|(simp;unfold wrap64;omega)),H',⟨Nat.le_refl _⟩,⟨by(with_reducible repeat(first|refine z14q ?_ _|refine z16q ?_|refine z10q ?_ _));exact BK300.out⟩,⟨by(with_reducible repeat(first|refine z14q ?_ _|refine z16q ?_|refine z10q ?_ _));exact BK301.out⟩,⟨by repeat(first|(with_reducible first|exact HB.out|apply z2q|apply z3q|apply z4q|refine z7q ?_ GE300.out|refine z7q ?_ GE301.out)|exact HB.out)⟩⟩
      case round=>
       clear H'
       try clear c1
       try clear p2
       try clear c5
       try clear p6
       try clear c7
       try clear c7b0
       try clear c7b1
       try clear p8
       try clear q8
       try clear hx8
       try clear qi8
       try clear c10
       try clear c11
       try clear c13
       try clear hcz12_0
       try clear hcz12_1
       try clear hcz12_2
       try clear hcz12_3
       try clear hcz6_0
       try clear hcz6_1
       try clear hcz6_2
       try clear hcz6_3
       try clear hfz12_0
       try clear hfz12_1
       try clear hfz12_2
       try clear hfz12_3
       try clear hfz6_0
       try clear hfz6_1
       try clear hfz6_2
       try clear hfz6_3
       try clear p2
       try clear p6
       try clear p8
       try clear q8
       obtain⟨x5_3,rfl,HA,HK3,BK300,BK301,HB⟩:=hrel
       cases gk with
       |zero=>exact absurd HA.out (by simp [spec_ReadRef.l0])
       |succ k3=>
        have H:=HA.out
        clear HA
        simp only [spec_ReadRef.l0]at H
        by_cases c14:x5_3<(a0.size:Int)
        ·rw [if_pos c14]at H
         have c14b0:decide (x5_3<(a0.size:Int))=true:=decide_eq_true c14
         clear c14
         (first|rw [c14b0]|(simp only [i64_w,i32_w];rw [c14b0])|skip)
         by_cases c15:0≤x5_3
         ·rw [if_pos c15]at H
          have c15b0:decide (0≤x5_3)=true:=decide_eq_true c15
          clear c15
          by_cases c17:(bt a0 x5_3)≥65
          ·rw [if_pos c17]at H
           have c17b0:decide (65≤(bt a0 x5_3))=true:=decide_eq_true c17
           clear c17
           by_cases c19:(bt a0 x5_3)≤90
           ·rw [if_pos c19]at H
            have c19b0:decide ((bt a0 x5_3)≤90)=true:=decide_eq_true c19
            clear c19
            have H':=Aside0.mk H
            clear H
            have p16:0≤(x5_3:Int):=of_decide_eq_true (by first|(with_reducible assumption)|assumption)
            have q16:x5_3<(a0.size:Int):=of_decide_eq_true (by first|(with_reducible assumption)|assumption)
            have hx16:=bt_at a0 x5_3
            replace p16:=eq_true p16
            replace q16:=eq_true q16
            have p18:0≤(x5_3:Int):=of_decide_eq_true (by first|(with_reducible assumption)|assumption)
            have q18:x5_3<(a0.size:Int):=of_decide_eq_true (by first|(with_reducible assumption)|assumption)
            have hx18:=bt_at a0 x5_3
            replace p18:=eq_true p18
            replace q18:=eq_true q18
            go_wp2
            go_roundg k3
            case measure=>have:=HJ1.out;have:=HJ8.out;have:=HK3.out;omega
            case rel=>exact⟨(wrap64 (x5_3+1)),(by first|rfl|(simp;done)|(simp [*];done)|(simp;unfold wrap64;omega)),H',⟨by have:=HJ1.out;have:=HJ8.out;have:=HK3.out;omega⟩,⟨by(with_reducible repeat(first|refine z14q ?_ _|refine z16q ?_|refine z10q ?_ _));exact BK300.out⟩,⟨by(with_reducible repeat(first|refine z14q ?_ _|refine z16q ?_|refine z10q ?_ _));exact BK301.out⟩,⟨by repeat(first|(with_reducible first|exact HB.out|apply z2q|apply z3q|apply z4q|refine z7q ?_ GE300.out|refine z7q ?_ GE301.out)|exact HB.out)⟩⟩
           ·rw [if_neg c19]at H
            have c19b0:decide ((bt a0 x5_3)≤90)=false:=decide_eq_false c19
            clear c19
            have H':=Aside0.mk H
            clear H
            have p16:0≤(x5_3:Int):=of_decide_eq_true (by first|(with_reducible assumption)|assumption)
            have q16:x5_3<(a0.size:Int):=of_decide_eq_true (by first|(with_reducible assumption)|assumption)
            have hx16:=bt_at a0 x5_3
            replace p16:=eq_true p16
            replace q16:=eq_true q16
            have p18:0≤(x5_3:Int):=of_decide_eq_true (by first|(with_reducible assumption)|assumption)
            have q18:x5_3<(a0.size:Int):=of_decide_eq_true (by first|(with_reducible assumption)|assumption)
            have hx18:=bt_at a0 x5_3
            replace p18:=eq_true p18
            replace q18:=eq_true q18
            go_wp2
            go_meet
            case rel=>exact⟨_,(x5_3),(by first|rfl|(simp;done)|(simp [*];done)|(simp;unfold wrap64;omega)),H',⟨by have:=HJ1.out;have:=HJ8.out;have:=HK3.out;first|omega|exact Nat.le_refl _⟩,⟨by(with_reducible repeat(first|refine z14q ?_ _|refine z16q ?_|refine z10q ?_ _));exact BK300.out⟩,⟨by(with_reducible repeat(first|refine z14q ?_ _|refine z16q ?_|refine z10q ?_ _));exact BK301.out⟩,⟨by repeat(first|(with_reducible first|exact HB.out|apply z2q|apply z3q|apply z4q|refine z7q ?_ GE300.out|refine z7q ?_ GE301.out)|exact HB.out)⟩⟩
          ·rw [if_neg c17]at H
           have c17b0:decide (65≤(bt a0 x5_3))=false:=decide_eq_false c17
           clear c17
           have H':=Aside0.mk H
           clear H
           have p16:0≤(x5_3:Int):=of_decide_eq_true (by first|(with_reducible assumption)|assumption)
           have q16:x5_3<(a0.size:Int):=of_decide_eq_true (by first|(with_reducible assumption)|assumption)
           have hx16:=bt_at a0 x5_3
           replace p16:=eq_true p16
           replace q16:=eq_true q16
           go_wp2
           go_meet
           case rel=>exact⟨_,(x5_3),(by first|rfl|(simp;done)|(simp [*];done)|(simp;unfold wrap64;omega)),H',⟨by have:=HJ1.out;have:=HJ8.out;have:=HK3.out;first|omega|exact Nat.le_refl _⟩,⟨by(with_reducible repeat(first|refine z14q ?_ _|refine z16q ?_|refine z10q ?_ _));exact BK300.out⟩,⟨by(with_reducible repeat(first|refine z14q ?_ _|refine z16q ?_|refine z10q ?_ _));exact BK301.out⟩,⟨by repeat(first|(with_reducible first|exact HB.out|apply z2q|apply z3q|apply z4q|refine z7q ?_ GE300.out|refine z7q ?_ GE301.out)|exact HB.out)⟩⟩
         ·rw [if_neg c15]at H
          exact absurd H (by simp)
        ·rw [if_neg c14]at H
         have c14b0:decide (x5_3<(a0.size:Int))=false:=decide_eq_false c14
         clear c14
         (first|rw [c14b0]|(simp only [i64_w,i32_w];rw [c14b0])|skip)
         have H':=Aside0.mk H
         clear H
         go_wp2
         go_meet
         case rel=>exact⟨_,(x5_3),(by first|rfl|(simp;done)|(simp [*];done)|(simp;unfold wrap64;omega)),H',⟨by have:=HJ1.out;have:=HJ8.out;have:=HK3.out;first|omega|exact Nat.le_refl _⟩,⟨by(with_reducible repeat(first|refine z14q ?_ _|refine z16q ?_|refine z10q ?_ _));exact BK300.out⟩,⟨by(with_reducible repeat(first|refine z14q ?_ _|refine z16q ?_|refine z10q ?_ _));exact BK301.out⟩,⟨by repeat(first|(with_reducible first|exact HB.out|apply z2q|apply z3q|apply z4q|refine z7q ?_ GE300.out|refine z7q ?_ GE301.out)|exact HB.out)⟩⟩
     case rest=>
      clear HC13
      try clear c1
      try clear p1
      try clear q1
      try clear hx1
      try clear p2
      try clear c5
      try clear p6
      try clear c7
      try clear c7b0
      try clear c7b1
      try clear p8
      try clear q8
      try clear hx8
      try clear qi8
      try clear c10
      try clear c11
      try clear c13
      try clear c14
      try clear c14b0
      try clear c15
      try clear c15b0
      try clear p16
      try clear q16
      try clear hx16
      try clear c17
      try clear c17b0
      try clear p18
      try clear q18
      try clear hx18
      try clear c19
      try clear c19b0
      try clear hcz12_0
      try clear hcz12_1
      try clear hcz12_2
      try clear hcz12_3
      try clear hcz6_0
      try clear hcz6_1
      try clear hcz6_2
      try clear hcz6_3
      try clear hfz12_0
      try clear hfz12_1
      try clear hfz12_2
      try clear hfz12_3
      try clear hfz6_0
      try clear hfz6_1
      try clear hfz6_2
      try clear hfz6_3
      try clear p16
      try clear p18
      try clear p2
      try clear p6
      try clear p8
      try clear q16
      try clear q18
      try clear q8
      obtain⟨kq,x5_12,rfl,HA,HJ12,BK300,BK301,HB⟩:=hcut
      cases kq with
      |zero=>exact absurd HA.out (by simp [spec_ReadRef.j3])
      |succ kj12=>
       have H:=HA.out
       clear HA
       simp only [spec_ReadRef.j3]at H
       by_cases c20:0≤x5_8
       ·rw [if_pos c20]at H
        have c20b0:=eq_true c20
        have c20b1:decide (0≤x5_8)=true:=decide_eq_true c20
        clear c20
        by_cases c21:x5_8≤x5_12
        ·rw [if_pos c21]at H
         have c21b0:=eq_true c21
         have c21b1:decide (x5_8≤x5_12)=true:=decide_eq_true c21
         clear c21
         by_cases c22:x5_12≤(a0.size:Int)
         ·rw [if_pos c22]at H
          have c22b0:=eq_true c22
          have c22b1:decide (x5_12≤(a0.size:Int))=true:=decide_eq_true c22
          clear c22
          replace H:=Option.bind_eq_some_iff.mp H
          obtain⟨t302,A230,H⟩:=H
          replace H:(if x5_12<(a0.size:Int)then(if 0≤x5_12 then(spec_ReadRef.j4 kj12 a0 x5_12 ((bt a0 x5_12)==36) 0 t302 false x302003_8)else(none))else(spec_ReadRef.j4 kj12 a0 x5_12 false 0 t302 false x302003_8))=some (r1,r2,r3,r4,r5):=H
          have A23:=Aside0.mk A230
          clear A230
          have HC24:=Aside0.mk H
          clear H
          go_upto_region 10 with (first|((with_reducible refine z8q (f:=148) rfl ?_);refine z17q (some 44) rfl rfl Tryz.func148 (by kernel_rfl) rfl #[.string (a0.extract (x5_8:Int).toNat (x5_12:Int).toNat)] rfl (by(try simp only [map_toArray,map_cons,map_nil]);first|done|rfl|(simp only [length_drop,length_take];rfl)) ?_;(with_reducible refine(spec_ColNumber.calls kj12 (a0.extract (x5_8:Int).toNat (x5_12:Int).toNat) t302 _ A23.out).mono ?_);rintro e w25 ⟨rfl,hb⟩;refine⟨_,rfl,?_⟩;have n0_:=Aside0.mk (z12q (cy BK300.out) hb);have n1_:=Aside0.mk (z12q (cy BK301.out) hb);have n2_:=Aside0.mk (z5q (ibh HB.out) hb);clear BK300;clear BK301;clear HB;have BK300:=n0_;have BK301:=n1_;have HB:=n2_;clear n0_ n1_ n2_;(try clear hb);(try clear hb2);(try clear hk);(try clear hi);have hnb26:=NB301_300.out;have hnc26:=NB300_301.out;obtain⟨hcz27_0,hcz27_1,hcz27_2,hcz27_3,hfz27_0,hfz27_1,hfz27_2,hfz27_3⟩:=cr4 (w:=w25) (g:=gb301) BK301.out))
          (try simp only [Act.put,setIfInBounds_toArray,set_cons_zero,set_cons_succ])
          go_cut [55] (fun v55 wc=>∃ (kq:Nat) (x55_23:Bool),v55= .bool x55_23∧Aside0 (spec_ReadRef.j4 kq a0 x5_12 x55_23 0 t302 false x302003_8=some (r1,r2,r3,r4,r5))∧Aside0 (kq≤kj12)∧Aside0 (wc.heap[gb300]? =some (.cells #[.int .i64 0,.int .i64 0,.bool false,.bool false] 47 (0,0)))∧Aside0 (wc.heap[gb301]? =some (.cells #[.int .i64 0,.int .i64 t302,.bool false,.bool x302003_8] 47 (0,0)))∧Aside0 (Below w.heap.size w wc))
          case first=>
           have H:=HC24.out
           clear HC24
           by_cases c28:x5_12<(a0.size:Int)
           ·rw [if_pos c28]at H
            have c28b0:decide (x5_12<(a0.size:Int))=true:=decide_eq_true c28
            clear c28
            (first|rw [c28b0]|(simp only [i64_w,i32_w];rw [c28b0])|skip)
            by_cases c29:0≤x5_12
            ·rw [if_pos c29]at H
             have c29b0:decide (0≤x5_12)=true:=decide_eq_true c29
             clear c29
             have H':=Aside0.mk H
             clear H
             have p30:0≤(x5_12:Int):=of_decide_eq_true (by first|(with_reducible assumption)|assumption)
             have q30:x5_12<(a0.size:Int):=of_decide_eq_true (by first|(with_reducible assumption)|assumption)
             have hx30:=bt_at a0 x5_12
             replace p30:=eq_true p30
             replace q30:=eq_true q30
             go_wp2
             go_meet
             case rel=>exact⟨_,(((bt a0 x5_12)==36)),(by first|rfl|(simp;done)|(simp [*];done)|(simp;unfold wrap64;omega)),H',⟨by have:=HJ1.out;have:=HJ8.out;have:=HJ12.out;first|omega|exact Nat.le_refl _⟩,⟨by(with_reducible repeat(first|refine z14q ?_ _|refine z16q ?_|refine z10q ?_ _));refine blk_far ?_ NB300_301.out _;(with_reducible repeat(first|refine z14q ?_ _|refine z16q ?_|refine z10q ?_ _));exact BK300.out⟩,⟨by refine cz ?_;refine z11q (cs:=#[.int .i64 0,.int .i64 0,.bool false,.bool x302003_8]) ?_ 1 _ rfl;(with_reducible repeat(first|refine z14q ?_ _|refine z16q ?_|refine z10q ?_ _));exact BK301.out⟩,⟨by repeat(first|(with_reducible first|exact HB.out|apply z2q|apply z3q|apply z4q|refine z7q ?_ GE300.out|refine z7q ?_ GE301.out)|exact HB.out)⟩⟩
            ·rw [if_neg c29]at H
             exact absurd H (by simp)
           ·rw [if_neg c28]at H
            have c28b0:decide (x5_12<(a0.size:Int))=false:=decide_eq_false c28
            clear c28
            (first|rw [c28b0]|(simp only [i64_w,i32_w];rw [c28b0])|skip)
            have H':=Aside0.mk H
            clear H
            go_wp2
            go_meet
            case rel=>exact⟨_,(false),(by first|rfl|(simp;done)|(simp [*];done)|(simp;unfold wrap64;omega)),H',⟨by have:=HJ1.out;have:=HJ8.out;have:=HJ12.out;first|omega|exact Nat.le_refl _⟩,⟨by(with_reducible repeat(first|refine z14q ?_ _|refine z16q ?_|refine z10q ?_ _));refine blk_far ?_ NB300_301.out _;(with_reducible repeat(first|refine z14q ?_ _|refine z16q ?_|refine z10q ?_ _));exact BK300.out⟩,⟨by refine cz ?_;refine z11q (cs:=#[.int .i64 0,.int .i64 0,.bool false,.bool x302003_8]) ?_ 1 _ rfl;(with_reducible repeat(first|refine z14q ?_ _|refine z16q ?_|refine z10q ?_ _));exact BK301.out⟩,⟨by repeat(first|(with_reducible first|exact HB.out|apply z2q|apply z3q|apply z4q|refine z7q ?_ GE300.out|refine z7q ?_ GE301.out)|exact HB.out)⟩⟩
          case rest=>
           clear HC24
           try clear c1
           try clear p1
           try clear q1
           try clear hx1
           try clear c2
           try clear p2
           try clear p3
           try clear q3
           try clear hx3
           try clear c5
           try clear p6
           try clear c7
           try clear c7b0
           try clear c7b1
           try clear p8
           try clear q8
           try clear hx8
           try clear qi8
           try clear c10
           try clear c11
           try clear c13
           try clear c14
           try clear c14b0
           try clear c15
           try clear c15b0
           try clear p16
           try clear q16
           try clear hx16
           try clear c17
           try clear c17b0
           try clear p18
           try clear q18
           try clear hx18
           try clear c19
           try clear c19b0
           try clear c20
           try clear c20b0
           try clear c20b1
           try clear c21
           try clear c21b0
           try clear c21b1
           try clear c22
           try clear c22b0
           try clear c22b1
           try clear c26
           try clear c28
           try clear c28b0
           try clear c29
           try clear c29b0
           try clear p30
           try clear q30
           try clear hx30
           try clear hcz12_0
           try clear hcz12_1
           try clear hcz12_2
           try clear hcz12_3
           try clear hcz27_0
           try clear hcz27_1
           try clear hcz27_2
           try clear hcz27_3
           try clear hcz6_0
           try clear hcz6_1
           try clear hcz6_2
           try clear hcz6_3
           try clear hfz12_0
           try clear hfz12_1
           try clear hfz12_2
           try clear hfz12_3
           try clear hfz27_0
           try clear hfz27_1
           try clear hfz27_2
           try clear hfz27_3
           try clear hfz6_0
           try clear hfz6_1
           try clear hfz6_2
           try clear hfz6_3
           try clear p1
           try clear p16
           try clear p18
           try clear p2
           try clear p30
           try clear p6
           try clear p8
           try clear q1
           try clear q16
           try clear q18
           try clear q30
           try clear q8
           obtain⟨kq,x55_23,rfl,HA,HJ23,BK300,BK301,HB⟩:=hcut
           cases kq with
           |zero=>exact absurd HA.out (by simp [spec_ReadRef.j4])
           |succ kj23=>
            have H:=HA.out
            clear HA
            simp only [spec_ReadRef.j4]at H
            have HC31:=Aside0.mk H
            clear H
            go_upto_if 55 with (fail)
            go_cut [5] (fun v5 wc=>∃ (kq:Nat) (x5_30:Int) (x302002_30:Bool),v5= .int .i64 x5_30∧Aside0 (spec_ReadRef.j5 kq a0 x5_30 0 t302 x302002_30 x302003_8=some (r1,r2,r3,r4,r5))∧Aside0 (kq≤kj23)∧Aside0 (wc.heap[gb300]? =some (.cells #[.int .i64 0,.int .i64 0,.bool false,.bool false] 47 (0,0)))∧Aside0 (wc.heap[gb301]? =some (.cells #[.int .i64 0,.int .i64 t302,.bool x302002_30,.bool x302003_8] 47 (0,0)))∧Aside0 (Below w.heap.size w wc))
            case first=>
             have H:=HC31.out
             clear HC31
             by_cases c32:x55_23=true
             ·subst c32
              have H1:(spec_ReadRef.j5 kj23 a0 (wrap64 (x5_12+1)) 0 t302 true x302003_8)=some (r1,r2,r3,r4,r5):=by rw [if_pos rfl]at H;exact H
              clear H
              have H:=H1
              clear H1
              have H':=Aside0.mk H
              clear H
              have hnb33:=NB301_300.out
              have hnc33:=NB300_301.out
              obtain⟨hcz34_0,hcz34_1,hcz34_2,hcz34_3,hfz34_0,hfz34_1,hfz34_2,hfz34_3⟩:=cr4 (w:=wc) (g:=gb301) BK301.out
              go_wp2
              go_meet
              case rel=>exact⟨_,(wrap64 (x5_12+1)),(true),(by first|rfl|(simp;done)|(simp [*];done)|(simp;unfold wrap64;omega)),H',⟨by have:=HJ1.out;have:=HJ8.out;have:=HJ12.out;have:=HJ23.out;first|omega|exact Nat.le_refl _⟩,⟨by(with_reducible repeat(first|refine z14q ?_ _|refine z16q ?_|refine z10q ?_ _));refine blk_far ?_ NB300_301.out _;(with_reducible repeat(first|refine z14q ?_ _|refine z16q ?_|refine z10q ?_ _));exact BK300.out⟩,⟨by refine cz ?_;refine z11q (cs:=#[.int .i64 0,.int .i64 t302,.bool false,.bool x302003_8]) ?_ 2 _ rfl;(with_reducible repeat(first|refine z14q ?_ _|refine z16q ?_|refine z10q ?_ _));exact BK301.out⟩,⟨by repeat(first|(with_reducible first|exact HB.out|apply z2q|apply z3q|apply z4q|refine z7q ?_ GE300.out|refine z7q ?_ GE301.out)|exact HB.out)⟩⟩
             ·replace c32:=Bool.eq_false_iff.mpr c32
              subst c32
              have H1:(spec_ReadRef.j5 kj23 a0 x5_12 0 t302 false x302003_8)=some (r1,r2,r3,r4,r5):=by rw [if_neg (show ¬ (false=true)by decide)]at H;exact H
              clear H
              have H:=H1
              clear H1
              have H':=Aside0.mk H
              clear H
              go_wp2
              go_meet
              case rel=>exact⟨_,(x5_12),(false),(by first|rfl|(simp;done)|(simp [*];done)|(simp;unfold wrap64;omega)),H',⟨by have:=HJ1.out;have:=HJ8.out;have:=HJ12.out;have:=HJ23.out;first|omega|exact Nat.le_refl _⟩,⟨by(with_reducible repeat(first|refine z14q ?_ _|refine z16q ?_|refine z10q ?_ _));exact BK300.out⟩,⟨by(with_reducible repeat(first|refine z14q ?_ _|refine z16q ?_|refine z10q ?_ _));exact BK301.out⟩,⟨by repeat(first|(with_reducible first|exact HB.out|apply z2q|apply z3q|apply z4q|refine z7q ?_ GE300.out|refine z7q ?_ GE301.out)|exact HB.out)⟩⟩
            case rest=>
             clear HC31
             try clear c1
             try clear p1
             try clear q1
             try clear hx1
             try clear c2
             try clear p2
             try clear c3
             try clear p3
             try clear q3
             try clear hx3
             try clear c5
             try clear p6
             try clear c7
             try clear c7b0
             try clear c7b1
             try clear p8
             try clear q8
             try clear hx8
             try clear qi8
             try clear c10
             try clear c11
             try clear c13
             try clear c14
             try clear c14b0
             try clear c15
             try clear c15b0
             try clear p16
             try clear q16
             try clear hx16
             try clear c17
             try clear c17b0
             try clear p18
             try clear q18
             try clear hx18
             try clear c19
             try clear c19b0
             try clear c20
             try clear c20b0
             try clear c20b1
             try clear c21
             try clear c21b0
             try clear c21b1
             try clear c22
             try clear c22b0
             try clear c22b1
             try clear c26
             try clear c28
             try clear c28b0
             try clear c29
             try clear c29b0
             try clear p30
             try clear q30
             try clear hx30
             try clear c32
             try clear c33
             try clear hcz12_0
             try clear hcz12_1
             try clear hcz12_2
             try clear hcz12_3
             try clear hcz27_0
             try clear hcz27_1
             try clear hcz27_2
             try clear hcz27_3
             try clear hcz34_0
             try clear hcz34_1
             try clear hcz34_2
             try clear hcz34_3
             try clear hcz6_0
             try clear hcz6_1
             try clear hcz6_2
             try clear hcz6_3
             try clear hfz12_0
             try clear hfz12_1
             try clear hfz12_2
             try clear hfz12_3
             try clear hfz27_0
             try clear hfz27_1
             try clear hfz27_2
             try clear hfz27_3
             try clear hfz34_0
             try clear hfz34_1
             try clear hfz34_2
             try clear hfz34_3
             try clear hfz6_0
             try clear hfz6_1
             try clear hfz6_2
             try clear hfz6_3
             try clear p1
             try clear p16
             try clear p18
             try clear p2
             try clear p3
             try clear p30
             try clear p6
             try clear p8
             try clear q1
             try clear q16
             try clear q18
             try clear q3
             try clear q30
             try clear q8
             obtain⟨kq,x5_30,x302002_30,rfl,HA,HJ30,BK300,BK301,HB⟩:=hcut
             cases kq with
             |zero=>exact absurd HA.out (by simp [spec_ReadRef.j5])
             |succ kj30=>
              have H:=HA.out
              clear HA
              simp only [spec_ReadRef.j5]at H
              by_cases c35:0≤x5_30
              ·rw [if_pos c35]at H
               have c35b0:=eq_true c35
               have c35b1:decide (0≤x5_30)=true:=decide_eq_true c35
               clear c35
               by_cases c36:x5_30≤(a0.size:Int)
               ·rw [if_pos c36]at H
                have c36b0:=eq_true c36
                have c36b1:decide (x5_30≤(a0.size:Int))=true:=decide_eq_true c36
                clear c36
                replace H:=Option.bind_eq_some_iff.mp H
                obtain⟨t303,A370,H⟩:=H
                replace H:((spec_GoodRef.f t303 t302 x302002_30 x302003_8).bind fun t304=>(if t304=true then((spec_RefText.f kj30 t303 t302 x302002_30 x302003_8).bind fun t305=>(if t305.toList=a0.toList then(some (t303,t302,x302002_30,x302003_8,true))else(some (0,0,false,false,false))))else(some (0,0,false,false,false))))=some (r1,r2,r3,r4,r5):=H
                have A37:=Aside0.mk A370
                clear A370
                replace H:=Option.bind_eq_some_iff.mp H
                obtain⟨t304,A380,H⟩:=H
                replace H:(if t304=true then((spec_RefText.f kj30 t303 t302 x302002_30 x302003_8).bind fun t305=>(if t305.toList=a0.toList then(some (t303,t302,x302002_30,x302003_8,true))else(some (0,0,false,false,false))))else(some (0,0,false,false,false)))=some (r1,r2,r3,r4,r5):=H
                have A38:=Aside0.mk A380
                clear A380
                by_cases c39:t304=true
                ·subst c39
                 have H1:((spec_RefText.f kj30 t303 t302 x302002_30 x302003_8).bind fun t305=>(if t305.toList=a0.toList then(some (t303,t302,x302002_30,x302003_8,true))else(some (0,0,false,false,false))))=some (r1,r2,r3,r4,r5):=by rw [if_pos rfl]at H;exact H
                 clear H
                 have H:=H1
                 clear H1
                 replace H:=Option.bind_eq_some_iff.mp H
                 obtain⟨t305,A400,H⟩:=H
                 replace H:(if t305.toList=a0.toList then(some (t303,t302,x302002_30,x302003_8,true))else(some (0,0,false,false,false)))=some (r1,r2,r3,r4,r5):=H
                 have A40:=Aside0.mk A400
                 clear A400
                 by_cases c41:t305.toList=a0.toList
                 ·rw [if_pos c41]at H
                  have c41b0:(t305.toList==a0.toList)=true:=beq_iff_eq.mpr c41
                  have c41b1:(t305.toList !=a0.toList)=false:=bne_eq_false_iff_eq.mpr c41
                  clear c41
                  simp only [Option.some.injEq,Prod.mk.injEq]at H
                  obtain⟨rfl,rfl,rfl,rfl,rfl⟩:=H
                  go_wp2_with (first|((with_reducible refine z8q (f:=117) rfl ?_);refine z17q (some 62) rfl rfl Tryz.func117 (by kernel_rfl) rfl #[.string (a0.extract (x5_30:Int).toNat a0.size)] rfl (by(try simp only [map_toArray,map_cons,map_nil]);first|done|rfl|(simp only [length_drop,length_take];rfl)) ?_;(with_reducible refine(spec_l2Number.calls kj30 (a0.extract (x5_30:Int).toNat a0.size) t303 _ A37.out).mono ?_);rintro e w' ⟨rfl,⟨nd,rfl⟩⟩;refine⟨_,rfl,?_⟩;(try(rw [drewN_self wc];generalize hq_:World.drewN wc _=wc;have n0_:Aside0 (wc.heap[gb300]? =some (.cells #[.int .i64 0,.int .i64 0,.bool false,.bool false] 47 (0,0))):=⟨by rw [←hq_];exact(cy BK300.out)⟩;have n1_:Aside0 (wc.heap[gb301]? =some (.cells #[.int .i64 0,.int .i64 t302,.bool x302002_30,.bool x302003_8] 47 (0,0))):=⟨by rw [←hq_];exact(cy BK301.out)⟩;have n2_:Aside0 (Below w.heap.size w wc):=⟨by rw [←hq_];exact(ibh HB.out)⟩;clear BK300 BK301 HB hq_;have BK300:=n0_;have BK301:=n1_;have HB:=n2_;clear n0_ n1_ n2_));have hnb42:=NB301_300.out;have hnc42:=NB300_301.out;obtain⟨hcz43_0,hcz43_1,hcz43_2,hcz43_3,hfz43_0,hfz43_1,hfz43_2,hfz43_3⟩:=cr4 (w:=wc) (g:=gb301) BK301.out)|((with_reducible refine z8q (f:=44) rfl ?_);refine z17q (some 65) rfl rfl Tryz.func44 (by kernel_rfl) rfl #[.agg #[.int .i64 t303,.int .i64 t302,.bool x302002_30,.bool x302003_8]] rfl (by(try simp only [map_toArray,map_cons,map_nil]);first|done|rfl|(simp only [length_drop,length_take];rfl)) ?_;(with_reducible refine(spec_GoodRef.calls t303 t302 x302002_30 x302003_8 true _ A38.out).mono ?_);rintro e w44 ⟨rfl,hb⟩;refine⟨_,rfl,?_⟩;have n0_:=Aside0.mk (z12q (cy BK300.out) hb);have n1_:=Aside0.mk (z12q (g:=gb301) (o:= .cells #[.int .i64 t303,.int .i64 t302,.bool x302002_30,.bool x302003_8] 47 (0,0)) (by refine cz ?_;refine z11q (cs:=#[.int .i64 0,.int .i64 t302,.bool x302002_30,.bool x302003_8]) ?_ 0 _ rfl;exact cy BK301.out) hb);have n2_:=Aside0.mk (z5q (ibh HB.out) hb);clear BK300;clear BK301;clear HB;have BK300:=n0_;have BK301:=n1_;have HB:=n2_;clear n0_ n1_ n2_;(try clear hb);(try clear hb2);(try clear hk);(try clear hi);obtain⟨hcz45_0,hcz45_1,hcz45_2,hcz45_3,hfz45_0,hfz45_1,hfz45_2,hfz45_3⟩:=cr4 (w:=w44) (g:=gb301) BK301.out)|(go_at_call 149;(with_reducible refine(spec_RefText.calls kj30 t303 t302 x302002_30 x302003_8 t305 _ A40.out).mono ?_);rintro e w46 ⟨rfl,hb⟩;have n0_:=Aside0.mk (z12q (cy BK300.out) hb);have n1_:=Aside0.mk (z12q (cy BK301.out) hb);have n2_:=Aside0.mk (z5q (ibh HB.out) hb);clear BK300;clear BK301;clear HB;have BK300:=n0_;have BK301:=n1_;have HB:=n2_;clear n0_ n1_ n2_;(try clear hb);(try clear hb2);(try clear hk);(try clear hi);obtain⟨hcz47_0,hcz47_1,hcz47_2,hcz47_3,hfz47_0,hfz47_1,hfz47_2,hfz47_3⟩:=cr4 (w:=w46) (g:=gb301) BK301.out;obtain⟨hcz48_0,hcz48_1,hcz48_2,hcz48_3,hfz48_0,hfz48_1,hfz48_2,hfz48_3⟩:=cr4 (w:=w46) (g:=gb300) BK300.out))
                  refine bodyPost_ret (results_ct rfl _ _ gb300 47 #[.int .i64 t303,.int .i64 t302,.bool x302002_30,.bool x302003_8] (0,0) _ rfl (by refine cz ?_;refine z11q (cs:=#[.int .i64 t303,.int .i64 t302,.bool x302002_30,.bool false]) ?_ 3 _ rfl;refine cz ?_;refine z11q (cs:=#[.int .i64 t303,.int .i64 t302,.bool false,.bool false]) ?_ 2 _ rfl;refine cz ?_;refine z11q (cs:=#[.int .i64 t303,.int .i64 0,.bool false,.bool false]) ?_ 1 _ rfl;refine cz ?_;refine z11q (cs:=#[.int .i64 0,.int .i64 0,.bool false,.bool false]) ?_ 0 _ rfl;exact cy BK300.out) Tryz.underlying47 rfl (by kernel_rfl)) rfl ?_
                  exact⟨by first|rfl|(simp [errW_none,errW_some]<;>rfl)|(simp [*,errW_none,errW_some]<;>rfl),by repeat(first|(with_reducible first|exact HB.out|apply z2q|apply z3q|apply z4q|refine z7q ?_ GE300.out|refine z7q ?_ GE301.out)|exact HB.out)⟩
                 ·rw [if_neg c41]at H
                  have c41b0:(t305.toList==a0.toList)=false:=beq_eq_false_iff_ne.mpr c41
                  have c41b1:(t305.toList !=a0.toList)=true:=bne_iff_ne.mpr c41
                  simp only [Option.some.injEq,Prod.mk.injEq]at H
                  obtain⟨rfl,rfl,rfl,rfl,rfl⟩:=H
                  go_wp2_with (first|((with_reducible refine z8q (f:=117) rfl ?_);refine z17q (some 62) rfl rfl Tryz.func117 (by kernel_rfl) rfl #[.string (a0.extract (x5_30:Int).toNat a0.size)] rfl (by(try simp only [map_toArray,map_cons,map_nil]);first|done|rfl|(simp only [length_drop,length_take];rfl)) ?_;(with_reducible refine(spec_l2Number.calls kj30 (a0.extract (x5_30:Int).toNat a0.size) t303 _ A37.out).mono ?_);rintro e w' ⟨rfl,⟨nd,rfl⟩⟩;refine⟨_,rfl,?_⟩;(try(rw [drewN_self wc];generalize hq_:World.drewN wc _=wc;have n0_:Aside0 (wc.heap[gb300]? =some (.cells #[.int .i64 0,.int .i64 0,.bool false,.bool false] 47 (0,0))):=⟨by rw [←hq_];exact(cy BK300.out)⟩;have n1_:Aside0 (wc.heap[gb301]? =some (.cells #[.int .i64 0,.int .i64 t302,.bool x302002_30,.bool x302003_8] 47 (0,0))):=⟨by rw [←hq_];exact(cy BK301.out)⟩;have n2_:Aside0 (Below w.heap.size w wc):=⟨by rw [←hq_];exact(ibh HB.out)⟩;clear BK300 BK301 HB hq_;have BK300:=n0_;have BK301:=n1_;have HB:=n2_;clear n0_ n1_ n2_));have hnb49:=NB301_300.out;have hnc49:=NB300_301.out;obtain⟨hcz50_0,hcz50_1,hcz50_2,hcz50_3,hfz50_0,hfz50_1,hfz50_2,hfz50_3⟩:=cr4 (w:=wc) (g:=gb301) BK301.out)|((with_reducible refine z8q (f:=44) rfl ?_);refine z17q (some 65) rfl rfl Tryz.func44 (by kernel_rfl) rfl #[.agg #[.int .i64 t303,.int .i64 t302,.bool x302002_30,.bool x302003_8]] rfl (by(try simp only [map_toArray,map_cons,map_nil]);first|done|rfl|(simp only [length_drop,length_take];rfl)) ?_;(with_reducible refine(spec_GoodRef.calls t303 t302 x302002_30 x302003_8 true _ A38.out).mono ?_);rintro e w51 ⟨rfl,hb⟩;refine⟨_,rfl,?_⟩;have n0_:=Aside0.mk (z12q (cy BK300.out) hb);have n1_:=Aside0.mk (z12q (g:=gb301) (o:= .cells #[.int .i64 t303,.int .i64 t302,.bool x302002_30,.bool x302003_8] 47 (0,0)) (by refine cz ?_;refine z11q (cs:=#[.int .i64 0,.int .i64 t302,.bool x302002_30,.bool x302003_8]) ?_ 0 _ rfl;exact cy BK301.out) hb);have n2_:=Aside0.mk (z5q (ibh HB.out) hb);clear BK300;clear BK301;clear HB;have BK300:=n0_;have BK301:=n1_;have HB:=n2_;clear n0_ n1_ n2_;(try clear hb);(try clear hb2);(try clear hk);(try clear hi);obtain⟨hcz52_0,hcz52_1,hcz52_2,hcz52_3,hfz52_0,hfz52_1,hfz52_2,hfz52_3⟩:=cr4 (w:=w51) (g:=gb301) BK301.out)|(go_at_call 149;(with_reducible refine(spec_RefText.calls kj30 t303 t302 x302002_30 x302003_8 t305 _ A40.out).mono ?_);rintro e w53 ⟨rfl,hb⟩;have n0_:=Aside0.mk (z12q (cy BK300.out) hb);have n1_:=Aside0.mk (z12q (cy BK301.out) hb);have n2_:=Aside0.mk (z5q (ibh HB.out) hb);clear BK300;clear BK301;clear HB;have BK300:=n0_;have BK301:=n1_;have HB:=n2_;clear n0_ n1_ n2_;(try clear hb);(try clear hb2);(try clear hk);(try clear hi);obtain⟨hcz54_0,hcz54_1,hcz54_2,hcz54_3,hfz54_0,hfz54_1,hfz54_2,hfz54_3⟩:=cr4 (w:=w53) (g:=gb300) BK300.out))
                  refine bodyPost_ret (results_ct rfl _ _ gb300 47 #[.int .i64 0,.int .i64 0,.bool false,.bool false] (0,0) _ rfl (by refine cz ?_;refine z11q (cs:=#[.int .i64 0,.int .i64 0,.bool false,.bool false]) ?_ 3 _ rfl;refine cz ?_;refine z11q (cs:=#[.int .i64 0,.int .i64 0,.bool false,.bool false]) ?_ 2 _ rfl;refine cz ?_;refine z11q (cs:=#[.int .i64 0,.int .i64 0,.bool false,.bool false]) ?_ 1 _ rfl;refine cz ?_;refine z11q (cs:=#[.int .i64 0,.int .i64 0,.bool false,.bool false]) ?_ 0 _ rfl;exact cy BK300.out) Tryz.underlying47 rfl (by kernel_rfl)) rfl ?_
                  exact⟨by first|rfl|(simp [errW_none,errW_some]<;>rfl)|(simp [*,errW_none,errW_some]<;>rfl),by repeat(first|(with_reducible first|exact HB.out|apply z2q|apply z3q|apply z4q|refine z7q ?_ GE300.out|refine z7q ?_ GE301.out)|exact HB.out)⟩
                ·replace c39:=Bool.eq_false_iff.mpr c39
                 subst c39
                 have H1:(some (0,0,false,false,false))=some (r1,r2,r3,r4,r5):=by rw [if_neg (show ¬ (false=true)by decide)]at H;exact H
                 clear H
                 have H:=H1
                 clear H1
                 simp only [Option.some.injEq,Prod.mk.injEq]at H
                 obtain⟨rfl,rfl,rfl,rfl,rfl⟩:=H
                 go_wp2_with (first|((with_reducible refine z8q (f:=117) rfl ?_);refine z17q (some 62) rfl rfl Tryz.func117 (by kernel_rfl) rfl #[.string (a0.extract (x5_30:Int).toNat a0.size)] rfl (by(try simp only [map_toArray,map_cons,map_nil]);first|done|rfl|(simp only [length_drop,length_take];rfl)) ?_;(with_reducible refine(spec_l2Number.calls kj30 (a0.extract (x5_30:Int).toNat a0.size) t303 _ A37.out).mono ?_);rintro e w' ⟨rfl,⟨nd,rfl⟩⟩;refine⟨_,rfl,?_⟩;(try(rw [drewN_self wc];generalize hq_:World.drewN wc _=wc;have n0_:Aside0 (wc.heap[gb300]? =some (.cells #[.int .i64 0,.int .i64 0,.bool false,.bool false] 47 (0,0))):=⟨by rw [←hq_];exact(cy BK300.out)⟩;have n1_:Aside0 (wc.heap[gb301]? =some (.cells #[.int .i64 0,.int .i64 t302,.bool x302002_30,.bool x302003_8] 47 (0,0))):=⟨by rw [←hq_];exact(cy BK301.out)⟩;have n2_:Aside0 (Below w.heap.size w wc):=⟨by rw [←hq_];exact(ibh HB.out)⟩;clear BK300 BK301 HB hq_;have BK300:=n0_;have BK301:=n1_;have HB:=n2_;clear n0_ n1_ n2_));have hnb55:=NB301_300.out;have hnc55:=NB300_301.out;obtain⟨hcz56_0,hcz56_1,hcz56_2,hcz56_3,hfz56_0,hfz56_1,hfz56_2,hfz56_3⟩:=cr4 (w:=wc) (g:=gb301) BK301.out)|((with_reducible refine z8q (f:=44) rfl ?_);refine z17q (some 65) rfl rfl Tryz.func44 (by kernel_rfl) rfl #[.agg #[.int .i64 t303,.int .i64 t302,.bool x302002_30,.bool x302003_8]] rfl (by(try simp only [map_toArray,map_cons,map_nil]);first|done|rfl|(simp only [length_drop,length_take];rfl)) ?_;(with_reducible refine(spec_GoodRef.calls t303 t302 x302002_30 x302003_8 false _ A38.out).mono ?_);rintro e w57 ⟨rfl,hb⟩;refine⟨_,rfl,?_⟩;have n0_:=Aside0.mk (z12q (cy BK300.out) hb);have n1_:=Aside0.mk (z12q (g:=gb301) (o:= .cells #[.int .i64 t303,.int .i64 t302,.bool x302002_30,.bool x302003_8] 47 (0,0)) (by refine cz ?_;refine z11q (cs:=#[.int .i64 0,.int .i64 t302,.bool x302002_30,.bool x302003_8]) ?_ 0 _ rfl;exact cy BK301.out) hb);have n2_:=Aside0.mk (z5q (ibh HB.out) hb);clear BK300;clear BK301;clear HB;have BK300:=n0_;have BK301:=n1_;have HB:=n2_;clear n0_ n1_ n2_;(try clear hb);(try clear hb2);(try clear hk);(try clear hi);obtain⟨hcz58_0,hcz58_1,hcz58_2,hcz58_3,hfz58_0,hfz58_1,hfz58_2,hfz58_3⟩:=cr4 (w:=w57) (g:=gb300) BK300.out))
                 refine bodyPost_ret (results_ct rfl _ _ gb300 47 #[.int .i64 0,.int .i64 0,.bool false,.bool false] (0,0) _ rfl (by refine cz ?_;refine z11q (cs:=#[.int .i64 0,.int .i64 0,.bool false,.bool false]) ?_ 3 _ rfl;refine cz ?_;refine z11q (cs:=#[.int .i64 0,.int .i64 0,.bool false,.bool false]) ?_ 2 _ rfl;refine cz ?_;refine z11q (cs:=#[.int .i64 0,.int .i64 0,.bool false,.bool false]) ?_ 1 _ rfl;refine cz ?_;refine z11q (cs:=#[.int .i64 0,.int .i64 0,.bool false,.bool false]) ?_ 0 _ rfl;exact cy BK300.out) Tryz.underlying47 rfl (by kernel_rfl)) rfl ?_
                 exact⟨by first|rfl|(simp [errW_none,errW_some]<;>rfl)|(simp [*,errW_none,errW_some]<;>rfl),by repeat(first|(with_reducible first|exact HB.out|apply z2q|apply z3q|apply z4q|refine z7q ?_ GE300.out|refine z7q ?_ GE301.out)|exact HB.out)⟩
               ·rw [if_neg c36]at H
                exact absurd H (by simp)
              ·rw [if_neg c35]at H
               exact absurd H (by simp)
         ·rw [if_neg c22]at H
          exact absurd H (by simp)
        ·rw [if_neg c21]at H
         exact absurd H (by simp)
       ·rw [if_neg c20]at H
        exact absurd H (by simp)

set_option maxHeartbeats 8000000 in
set_option maxRecDepth 100000 in
theorem spec_ReadRef.calls (k:Nat) (a0:ByteArray) (r1:Int) (r2:Int) (r3:Bool) (r4:Bool) (r5:Bool) (w:World) (h:spec_ReadRef.f k a0=some (r1,r2,r3,r4,r5)):
  Calls Tryz.prog 133 #[.string a0] w fun e w'=>e= .returned (.tuple #[.agg #[.int .i64 r1,.int .i64 r2,.bool r3,.bool r4],.bool r5])∧Below w.heap.size w w':=by
 have H:(if 0<(a0.size:Int)then(spec_ReadRef.j0 k a0 0 ((bt a0 0)==36) 0 0 false false)else(spec_ReadRef.j0 k a0 0 false 0 0 false false))=some (r1,r2,r3,r4,r5):=h
 exact spec_ReadRef.calls_p1 k a0 r1 r2 r3 r4 r5 w H

/-! ### spec_l4Name: function 115 -/

mutual
def spec_l4Name.j0:Nat→ByteArray→Bool→Option (Bool)
 |0,_,_=>none
 |k+1,x0,x25=>if x25=true then(some false)else(spec_l4Name.l0 k x0 0)
def spec_l4Name.l0:Nat→ByteArray→Int→Option (Bool)
 |0,_,_=>none
 |k+1,x0,x3=>if x3<(x0.size:Int)then(if 0≤x3 then((spec_l4NameByte.f (bt x0 x3)).bind fun t307=>(if t307=true then(spec_l4Name.l0 k x0 (wrap64 (x3+1)))else(some false)))else(none))else((spec_l4Upper.f x0).bind fun t308=>(if t308.toList=([84,82,85,69]:List UInt8)then(some false)else(if t308.toList=([70,65,76,83,69]:List UInt8)then(some false)else((spec_l4Second.f k t308).bind fun t309=>(if t309=true then(some false)else((spec_ReadRef.f k t308).bind fun bt310=>(some (!bt310.2.2.2.2))))))))
end

def spec_l4Name.f (k:Nat) (a0:ByteArray):Option (Bool):=if(a0.size:Int)<1 then(spec_l4Name.j0 k a0 true)else(if(a0.size:Int) > 20 then(spec_l4Name.j0 k a0 true)else(if 0<(a0.size:Int)then((spec_l4Letter.f (bt a0 0)).bind fun t306=>(if t306=true then(spec_l4Name.j0 k a0 false)else(spec_l4Name.j0 k a0 ((bt a0 0) !=95))))else(none)))

end Go.Proofs.YtegdpgpbdcediaaGreatDoor.PFnExactUsedNames
