/- Functions of the program as Lean functions, and proofs that the Go code comes to their answers: for the law FnExactUsedNames; made out of the print by a program of mine (compact.py). No conditions but each theorem's own. -/
import Derived.Test.YtegdpgpbdcediaaGreatDoorMFnExactUsedNamesa0
import Derived.Test.YtegdpgpbdcediaaGreatDoorMFnExactUsedNamesa9
import Derived.Test.YtegdpgpbdcediaaGreatDoorMFnExactUsedNamesa10
import Derived.Test.YtegdpgpbdcediaaGreatDoorMFnExactUsedNamesa11
namespace Go.Proofs.YtegdpgpbdcediaaGreatDoor.PFnExactUsedNames
open List (map_toArray map_cons map_nil length_drop length_take set_cons_zero set_cons_succ setIfInBounds_toArray)
open Go.RowKit Go.Proofs.YtegdpgpbdcediaaGreatDoorW.PrintWords Go.Proofs.YtegdpgpbdcediaaGreatDoorW.PrintLast Go.Proofs.YtegdpgpbdcediaaGreatDoorW.PrintMore
attribute [local go_sem] max2_int min2_int max_two min_two max_three min_three max_four min_four   -- for this text's walks alone
set_option linter.unusedVariables false
set_option linter.unusedSimpArgs false

attribute [local go_sem high] eqA47 eqA65
set_option maxHeartbeats 8000000 in
set_option maxRecDepth 100000 in
theorem impl_ReadRef.calls_p2 (k:Nat) (a0:ByteArray) (r1:Int) (r2:Int) (r3:Bool) (r4:Bool) (r5:Bool) (w:World) (hT:Tab w) (t454:_) (A5:Aside0 ((strings_HasPrefix.f a0 (⟨#[36]⟩:ByteArray))=some t454)) (c2:¬ ((a0.size:Int) > 12)) (H:(if t454=true then(if 1≤(a0.size:Int)then(impl_ReadRef.j0 k a0 (a0.extract 1 a0.size) 0 0 false true)else(none))else(impl_ReadRef.j0 k a0 a0 0 0 false false))=some (r1,r2,r3,r4,r5)):
  Calls Tryz.prog 107 #[.string a0] w fun e w'=>e= .returned (.tuple #[.agg #[.int .i64 r1,.int .i64 r2,.bool r3,.bool r4],.bool r5])∧Below w.heap.size w w':=by
 have hu47:=Tryz.underlying47
 have HB:=Aside0.mk (Below.refl w.heap.size w)
 have c2b0:decide (12<(a0.size:Int))=false:=decide_eq_false c2
 have c2b1:decide (12<a0.size)=false:=decide_eq_false (by omega)
 clear c2
 have HC6:=Aside0.mk H
 clear H
 go_enter Tryz.func107,Tryz.ntmps107
 go_upto_if 14 with (first|((with_reducible refine z15q (N:=2) rfl ?_);refine z13q ?hg (N:=2) ?hd (cs:=#[.int .i64 0,.int .i64 0,.bool false,.bool false]) (t:=47) ?hr ?_;(case hd=>rfl);(case hg=>rfl);(case hr=>first|(go_simp;done)|(go_simp;rfl));intro gb452 hg w7 hbox hb;have n0_:=Aside0.mk (z5q (ibh HB.out) hb);have n1_:=Aside0.mk (hbox);have n2_:=Aside0.mk ((by rw [hg];exact(z6q (ibh HB.out)):w.heap.size≤gb452));have n3_:=Aside0.mk ((by rw [hg];exact(z6q (ibh HB.out)):w.heap.size≤gb452));clear HB;have HB:=n0_;have BK452:=n1_;have GW452:=n2_;have GE452:=n3_;clear n0_ n1_ n2_ n3_;clear hb hbox hg)|((with_reducible refine z15q (N:=4) rfl ?_);refine z13q ?hg (N:=4) ?hd (cs:=#[.int .i64 0,.int .i64 0,.bool false,.bool false]) (t:=47) ?hr ?_;(case hd=>rfl);(case hg=>rfl);(case hr=>first|(go_simp;done)|(go_simp;rfl));intro gb453 hg w8 hbox hb;have n0_:=Aside0.mk (z12q (cy BK452.out) hb);have n1_:=Aside0.mk (z5q (ibh HB.out) hb);have n2_:=Aside0.mk (hbox);have n3_:=Aside0.mk ((by rw [hg];exact(z6q (ibh HB.out)):w.heap.size≤gb453));have n4_:=Aside0.mk ((by rw [hg];exact(z6q (ibh HB.out)):w.heap.size≤gb453));have n5_:=Aside0.mk ((by rw [hg];exact Nat.ne_of_lt (z20q (cy BK452.out)):gb452≠gb453));have n6_:=Aside0.mk ((by rw [hg];exact Nat.ne_of_gt (z20q (cy BK452.out)):gb453≠gb452));clear BK452;clear HB;have BK452:=n0_;have HB:=n1_;have BK453:=n2_;have GW453:=n3_;have GE453:=n4_;have NB452_453:=n5_;have NB453_452:=n6_;clear n0_ n1_ n2_ n3_ n4_ n5_ n6_;clear hb hbox hg;have hnb9:=NB453_452.out;have hnc9:=NB452_453.out;obtain⟨hcz10_0,hcz10_1,hcz10_2,hcz10_3,hfz10_0,hfz10_1,hfz10_2,hfz10_3⟩:=cr4 (w:=w8) (g:=gb453) BK453.out)|((with_reducible refine z8q (f:=121) rfl ?_);refine z17q (some 14) rfl rfl Tryz.func121 (by kernel_rfl) rfl #[.string a0,.string (⟨#[36]⟩:ByteArray)] rfl (by(try simp only [map_toArray,map_cons,map_nil]);first|done|rfl|(simp only [length_drop,length_take];rfl)) ?_;(with_reducible refine(strings_HasPrefix.calls a0 (⟨#[36]⟩:ByteArray) t454 _ A5.out).mono ?_);rintro e w' ⟨rfl,⟨nd,rfl⟩⟩;refine⟨_,rfl,?_⟩))
 (try simp only [Act.put,setIfInBounds_toArray,set_cons_zero,set_cons_succ])
 go_cut [5] (fun v5 wc=>∃ (kq:Nat) (x5_5:ByteArray) (x454003_5:Bool),v5= .string x5_5∧Aside0 (impl_ReadRef.j0 kq a0 x5_5 0 0 false x454003_5=some (r1,r2,r3,r4,r5))∧Aside0 (kq≤k)∧Aside0 (wc.heap[gb452]? =some (.cells #[.int .i64 0,.int .i64 0,.bool false,.bool false] 47 (0,0)))∧Aside0 (wc.heap[gb453]? =some (.cells #[.int .i64 0,.int .i64 0,.bool false,.bool x454003_5] 47 (0,0)))∧Aside0 (Below w.heap.size w wc))
 case first=>
  have H:=HC6.out
  clear HC6
  by_cases c11:t454=true
  ·subst c11
   have H1:(if 1≤(a0.size:Int)then(impl_ReadRef.j0 k a0 (a0.extract 1 a0.size) 0 0 false true)else(none))=some (r1,r2,r3,r4,r5):=by rw [if_pos rfl]at H;exact H
   clear H
   have H:=H1
   clear H1
   by_cases c12:1≤(a0.size:Int)
   ·rw [if_pos c12]at H
    have c12b0:=eq_true c12
    have c12b1:decide (1≤(a0.size:Int))=true:=decide_eq_true c12
    clear c12
    have H':=Aside0.mk H
    clear H
    have hnb13:=NB453_452.out
    have hnc13:=NB452_453.out
    obtain⟨hcz14_0,hcz14_1,hcz14_2,hcz14_3,hfz14_0,hfz14_1,hfz14_2,hfz14_3⟩:=cr4 (w:=w8) (g:=gb453) BK453.out
    go_wp2
    go_meet
    case rel=>exact⟨_,(a0.extract 1 a0.size),(true),(by first|rfl|(simp;done)|(simp [*];done)|(simp;unfold wrap64;omega)),H',⟨by first|omega|exact Nat.le_refl _⟩,⟨by(with_reducible repeat(first|refine z14q ?_ _|refine z16q ?_|refine z10q ?_ _));refine blk_far ?_ NB452_453.out _;(with_reducible repeat(first|refine z14q ?_ _|refine z16q ?_|refine z10q ?_ _));refine blk_far ?_ NB452_453.out _;(with_reducible repeat(first|refine z14q ?_ _|refine z16q ?_|refine z10q ?_ _));refine blk_far ?_ NB452_453.out _;(with_reducible repeat(first|refine z14q ?_ _|refine z16q ?_|refine z10q ?_ _));refine blk_far ?_ NB452_453.out _;(with_reducible repeat(first|refine z14q ?_ _|refine z16q ?_|refine z10q ?_ _));refine blk_far ?_ NB452_453.out _;(with_reducible repeat(first|refine z14q ?_ _|refine z16q ?_|refine z10q ?_ _));exact BK452.out⟩,⟨by refine cz ?_;refine z11q (cs:=#[.int .i64 0,.int .i64 0,.bool false,.bool false]) ?_ 3 _ rfl;refine cz ?_;refine z11q (cs:=#[.int .i64 0,.int .i64 0,.bool false,.bool false]) ?_ 3 _ rfl;refine cz ?_;refine z11q (cs:=#[.int .i64 0,.int .i64 0,.bool false,.bool false]) ?_ 2 _ rfl;refine cz ?_;refine z11q (cs:=#[.int .i64 0,.int .i64 0,.bool false,.bool false]) ?_ 1 _ rfl;refine cz ?_;refine z11q (cs:=#[.int .i64 0,.int .i64 0,.bool false,.bool false]) ?_ 0 _ rfl;(with_reducible repeat(first|refine z14q ?_ _|refine z16q ?_|refine z10q ?_ _));exact BK453.out⟩,⟨by repeat(first|(with_reducible first|exact HB.out|apply z2q|apply z3q|apply z4q|refine z7q ?_ GE452.out|refine z7q ?_ GE453.out)|exact HB.out)⟩⟩
   ·rw [if_neg c12]at H
    exact absurd H (by simp)
  ·replace c11:=Bool.eq_false_iff.mpr c11
   subst c11
   have H1:(impl_ReadRef.j0 k a0 a0 0 0 false false)=some (r1,r2,r3,r4,r5):=by rw [if_neg (show ¬ (false=true)by decide)]at H;exact H
   clear H
   have H:=H1
   clear H1
   have H':=Aside0.mk H
   clear H
   go_wp2
   go_meet
   case rel=>exact⟨_,(a0),(false),(by first|rfl|(simp;done)|(simp [*];done)|(simp;unfold wrap64;omega)),H',⟨by first|omega|exact Nat.le_refl _⟩,⟨by(with_reducible repeat(first|refine z14q ?_ _|refine z16q ?_|refine z10q ?_ _));refine blk_far ?_ NB452_453.out _;(with_reducible repeat(first|refine z14q ?_ _|refine z16q ?_|refine z10q ?_ _));refine blk_far ?_ NB452_453.out _;(with_reducible repeat(first|refine z14q ?_ _|refine z16q ?_|refine z10q ?_ _));refine blk_far ?_ NB452_453.out _;(with_reducible repeat(first|refine z14q ?_ _|refine z16q ?_|refine z10q ?_ _));refine blk_far ?_ NB452_453.out _;(with_reducible repeat(first|refine z14q ?_ _|refine z16q ?_|refine z10q ?_ _));exact BK452.out⟩,⟨by refine cz ?_;refine z11q (cs:=#[.int .i64 0,.int .i64 0,.bool false,.bool false]) ?_ 3 _ rfl;refine cz ?_;refine z11q (cs:=#[.int .i64 0,.int .i64 0,.bool false,.bool false]) ?_ 2 _ rfl;refine cz ?_;refine z11q (cs:=#[.int .i64 0,.int .i64 0,.bool false,.bool false]) ?_ 1 _ rfl;refine cz ?_;refine z11q (cs:=#[.int .i64 0,.int .i64 0,.bool false,.bool false]) ?_ 0 _ rfl;(with_reducible repeat(first|refine z14q ?_ _|refine z16q ?_|refine z10q ?_ _));exact BK453.out⟩,⟨by repeat(first|(with_reducible first|exact HB.out|apply z2q|apply z3q|apply z4q|refine z7q ?_ GE452.out|refine z7q ?_ GE453.out)|exact HB.out)⟩⟩
 case rest=>
  clear HC6
  try clear c1
  try clear c2
  try clear c2b0
  try clear c2b1
  try clear p2
  try clear c9
  try clear c10
  try clear c11
  try clear c12
  try clear c12b0
  try clear c12b1
  try clear c13
  try clear hcz10_0
  try clear hcz10_1
  try clear hcz10_2
  try clear hcz10_3
  try clear hcz14_0
  try clear hcz14_1
  try clear hcz14_2
  try clear hcz14_3
  try clear hcz4_0
  try clear hcz4_1
  try clear hcz4_2
  try clear hcz4_3
  try clear hfz10_0
  try clear hfz10_1
  try clear hfz10_2
  try clear hfz10_3
  try clear hfz14_0
  try clear hfz14_1
  try clear hfz14_2
  try clear hfz14_3
  try clear hfz4_0
  try clear hfz4_1
  try clear hfz4_2
  try clear hfz4_3
  obtain⟨kq,x5_5,x454003_5,rfl,HA,HJ5,BK452,BK453,HB⟩:=hcut
  cases kq with
  |zero=>exact absurd HA.out (by simp [impl_ReadRef.j0])
  |succ kj5=>
   have H:=HA.out
   clear HA
   simp only [impl_ReadRef.j0]at H
   have HC15:=Aside0.mk H
   clear H
   go_upto_block 0 with (fail)
   go_cut [6] (fun v6 wc=>∃ (kq:Nat) (x6_14:Int),v6= .int .i64 x6_14∧Aside0 (impl_ReadRef.j2 kq a0 x5_5 x6_14 0 0 false x454003_5=some (r1,r2,r3,r4,r5))∧Aside0 (kq≤kj5)∧Aside0 (wc.heap[gb452]? =some (.cells #[.int .i64 0,.int .i64 0,.bool false,.bool false] 47 (0,0)))∧Aside0 (wc.heap[gb453]? =some (.cells #[.int .i64 0,.int .i64 0,.bool false,.bool x454003_5] 47 (0,0)))∧Aside0 (Below w.heap.size w wc))
   case first=>
    have H:=HC15.out
    clear HC15
    have H':=Aside0.mk H
    clear H
    go_wp2
    go_loopg [6] kj5 (fun kq v6 w'=>∃ (x6_2:Int),v6= .int .i64 x6_2∧Aside0 (impl_ReadRef.l0 kq a0 x5_5 x6_2 0 0 false x454003_5=some (r1,r2,r3,r4,r5))∧Aside0 (kq≤kj5)∧Aside0 (w'.heap[gb452]? =some (.cells #[.int .i64 0,.int .i64 0,.bool false,.bool false] 47 (0,0)))∧Aside0 (w'.heap[gb453]? =some (.cells #[.int .i64 0,.int .i64 0,.bool false,.bool x454003_5] 47 (0,0)))∧Aside0 (Below w.heap.size w w'))
    case atStart=>exact⟨(0),(by first|rfl|(simp;done)|(simp [*];done)|(simp;unfold wrap64;omega)),H',⟨Nat.le_refl _⟩,⟨by(with_reducible repeat(first|refine z14q ?_ _|refine z16q ?_|refine z10q ?_ _));exact BK452.out⟩,⟨by(with_reducible repeat(first|refine z14q ?_ _|refine z16q ?_|refine z10q ?_ _));exact BK453.out⟩,⟨by repeat(first|(with_reducible first|exact HB.out|apply z2q|apply z3q|apply z4q|refine z7q ?_ GE452.out|refine z7q ?_ GE453.out)|exact HB.out)⟩⟩
    case round=>
     clear H'
     try clear c1
     try clear c2
     try clear c2b0
     try clear c2b1
     try clear p2
     try clear c9
     try clear c10
     try clear c11
     try clear c12
     try clear c12b0
     try clear c12b1
     try clear c13
     try clear hcz10_0
     try clear hcz10_1
     try clear hcz10_2
     try clear hcz10_3
     try clear hcz14_0
     try clear hcz14_1
     try clear hcz14_2
     try clear hcz14_3
     try clear hcz4_0
     try clear hcz4_1
     try clear hcz4_2
     try clear hcz4_3
     try clear hfz10_0
     try clear hfz10_1
     try clear hfz10_2
     try clear hfz10_3
     try clear hfz14_0
     try clear hfz14_1
     try clear hfz14_2
     try clear hfz14_3
     try clear hfz4_0
     try clear hfz4_1
     try clear hfz4_2
     try clear hfz4_3
     try clear p2
     obtain⟨x6_2,rfl,HA,HK2,BK452,BK453,HB⟩:=hrel
     cases gk with
     |zero=>exact absurd HA.out (by simp [impl_ReadRef.l0])
     |succ k2=>
      have H:=HA.out
      clear HA
      simp only [impl_ReadRef.l0]at H
      by_cases c16:x6_2<(x5_5.size:Int)
      ·rw [if_pos c16]at H
       have c16b0:decide (x6_2<(x5_5.size:Int))=true:=decide_eq_true c16
       clear c16
       (first|rw [c16b0]|(simp only [i64_w,i32_w];rw [c16b0])|skip)
       by_cases c17:0≤x6_2
       ·rw [if_pos c17]at H
        have c17b0:decide (0≤x6_2)=true:=decide_eq_true c17
        clear c17
        by_cases c19:(bt x5_5 x6_2)≥65
        ·rw [if_pos c19]at H
         have c19b0:decide (65≤(bt x5_5 x6_2))=true:=decide_eq_true c19
         clear c19
         by_cases c21:(bt x5_5 x6_2)≤90
         ·rw [if_pos c21]at H
          have c21b0:decide ((bt x5_5 x6_2)≤90)=true:=decide_eq_true c21
          clear c21
          have H':=Aside0.mk H
          clear H
          have p18:0≤(x6_2:Int):=of_decide_eq_true (by first|(with_reducible assumption)|assumption)
          have q18:x6_2<(x5_5.size:Int):=of_decide_eq_true (by first|(with_reducible assumption)|assumption)
          have hx18:=bt_at x5_5 x6_2
          replace p18:=eq_true p18
          replace q18:=eq_true q18
          have p20:0≤(x6_2:Int):=of_decide_eq_true (by first|(with_reducible assumption)|assumption)
          have q20:x6_2<(x5_5.size:Int):=of_decide_eq_true (by first|(with_reducible assumption)|assumption)
          have hx20:=bt_at x5_5 x6_2
          replace p20:=eq_true p20
          replace q20:=eq_true q20
          go_wp2
          go_roundg k2
          case measure=>have:=HJ5.out;have:=HK2.out;omega
          case rel=>exact⟨(wrap64 (x6_2+1)),(by first|rfl|(simp;done)|(simp [*];done)|(simp;unfold wrap64;omega)),H',⟨by have:=HJ5.out;have:=HK2.out;omega⟩,⟨by(with_reducible repeat(first|refine z14q ?_ _|refine z16q ?_|refine z10q ?_ _));exact BK452.out⟩,⟨by(with_reducible repeat(first|refine z14q ?_ _|refine z16q ?_|refine z10q ?_ _));exact BK453.out⟩,⟨by repeat(first|(with_reducible first|exact HB.out|apply z2q|apply z3q|apply z4q|refine z7q ?_ GE452.out|refine z7q ?_ GE453.out)|exact HB.out)⟩⟩
         ·rw [if_neg c21]at H
          have c21b0:decide ((bt x5_5 x6_2)≤90)=false:=decide_eq_false c21
          clear c21
          have H':=Aside0.mk H
          clear H
          have p18:0≤(x6_2:Int):=of_decide_eq_true (by first|(with_reducible assumption)|assumption)
          have q18:x6_2<(x5_5.size:Int):=of_decide_eq_true (by first|(with_reducible assumption)|assumption)
          have hx18:=bt_at x5_5 x6_2
          replace p18:=eq_true p18
          replace q18:=eq_true q18
          have p20:0≤(x6_2:Int):=of_decide_eq_true (by first|(with_reducible assumption)|assumption)
          have q20:x6_2<(x5_5.size:Int):=of_decide_eq_true (by first|(with_reducible assumption)|assumption)
          have hx20:=bt_at x5_5 x6_2
          replace p20:=eq_true p20
          replace q20:=eq_true q20
          go_wp2
          go_meet
          case rel=>exact⟨_,(x6_2),(by first|rfl|(simp;done)|(simp [*];done)|(simp;unfold wrap64;omega)),H',⟨by have:=HJ5.out;have:=HK2.out;first|omega|exact Nat.le_refl _⟩,⟨by(with_reducible repeat(first|refine z14q ?_ _|refine z16q ?_|refine z10q ?_ _));exact BK452.out⟩,⟨by(with_reducible repeat(first|refine z14q ?_ _|refine z16q ?_|refine z10q ?_ _));exact BK453.out⟩,⟨by repeat(first|(with_reducible first|exact HB.out|apply z2q|apply z3q|apply z4q|refine z7q ?_ GE452.out|refine z7q ?_ GE453.out)|exact HB.out)⟩⟩
        ·rw [if_neg c19]at H
         have c19b0:decide (65≤(bt x5_5 x6_2))=false:=decide_eq_false c19
         clear c19
         have H':=Aside0.mk H
         clear H
         have p18:0≤(x6_2:Int):=of_decide_eq_true (by first|(with_reducible assumption)|assumption)
         have q18:x6_2<(x5_5.size:Int):=of_decide_eq_true (by first|(with_reducible assumption)|assumption)
         have hx18:=bt_at x5_5 x6_2
         replace p18:=eq_true p18
         replace q18:=eq_true q18
         go_wp2
         go_meet
         case rel=>exact⟨_,(x6_2),(by first|rfl|(simp;done)|(simp [*];done)|(simp;unfold wrap64;omega)),H',⟨by have:=HJ5.out;have:=HK2.out;first|omega|exact Nat.le_refl _⟩,⟨by(with_reducible repeat(first|refine z14q ?_ _|refine z16q ?_|refine z10q ?_ _));exact BK452.out⟩,⟨by(with_reducible repeat(first|refine z14q ?_ _|refine z16q ?_|refine z10q ?_ _));exact BK453.out⟩,⟨by repeat(first|(with_reducible first|exact HB.out|apply z2q|apply z3q|apply z4q|refine z7q ?_ GE452.out|refine z7q ?_ GE453.out)|exact HB.out)⟩⟩
       ·rw [if_neg c17]at H
        exact absurd H (by simp)
      ·rw [if_neg c16]at H
       have c16b0:decide (x6_2<(x5_5.size:Int))=false:=decide_eq_false c16
       clear c16
       (first|rw [c16b0]|(simp only [i64_w,i32_w];rw [c16b0])|skip)
       have H':=Aside0.mk H
       clear H
       go_wp2
       go_meet
       case rel=>exact⟨_,(x6_2),(by first|rfl|(simp;done)|(simp [*];done)|(simp;unfold wrap64;omega)),H',⟨by have:=HJ5.out;have:=HK2.out;first|omega|exact Nat.le_refl _⟩,⟨by(with_reducible repeat(first|refine z14q ?_ _|refine z16q ?_|refine z10q ?_ _));exact BK452.out⟩,⟨by(with_reducible repeat(first|refine z14q ?_ _|refine z16q ?_|refine z10q ?_ _));exact BK453.out⟩,⟨by repeat(first|(with_reducible first|exact HB.out|apply z2q|apply z3q|apply z4q|refine z7q ?_ GE452.out|refine z7q ?_ GE453.out)|exact HB.out)⟩⟩
   case rest=>
    clear HC15
    try clear c1
    try clear p1
    try clear q1
    try clear hx1
    try clear c2
    try clear c2b0
    try clear c2b1
    try clear p2
    try clear q2
    try clear hx2
    try clear p6
    try clear c9
    try clear c10
    try clear c11
    try clear c12
    try clear c12b0
    try clear c12b1
    try clear c13
    try clear c16
    try clear c16b0
    try clear c17
    try clear c17b0
    try clear p18
    try clear q18
    try clear hx18
    try clear c19
    try clear c19b0
    try clear p20
    try clear q20
    try clear hx20
    try clear c21
    try clear c21b0
    try clear hcz10_0
    try clear hcz10_1
    try clear hcz10_2
    try clear hcz10_3
    try clear hcz14_0
    try clear hcz14_1
    try clear hcz14_2
    try clear hcz14_3
    try clear hcz4_0
    try clear hcz4_1
    try clear hcz4_2
    try clear hcz4_3
    try clear hfz10_0
    try clear hfz10_1
    try clear hfz10_2
    try clear hfz10_3
    try clear hfz14_0
    try clear hfz14_1
    try clear hfz14_2
    try clear hfz14_3
    try clear hfz4_0
    try clear hfz4_1
    try clear hfz4_2
    try clear hfz4_3
    try clear p18
    try clear p2
    try clear p20
    try clear q18
    try clear q20
    obtain⟨kq,x6_14,rfl,HA,HJ14,BK452,BK453,HB⟩:=hcut
    cases kq with
    |zero=>exact absurd HA.out (by simp [impl_ReadRef.j2])
    |succ kj14=>
     have H:=HA.out
     clear HA
     simp only [impl_ReadRef.j2]at H
     by_cases c22:0≤x6_14
     ·rw [if_pos c22]at H
      have c22b0:=eq_true c22
      have c22b1:decide (0≤x6_14)=true:=decide_eq_true c22
      clear c22
      by_cases c23:x6_14≤(x5_5.size:Int)
      ·rw [if_pos c23]at H
       have c23b0:=eq_true c23
       have c23b1:decide (x6_14≤(x5_5.size:Int))=true:=decide_eq_true c23
       clear c23
       replace H:=Option.bind_eq_some_iff.mp H
       obtain⟨t455,A240,H⟩:=H
       replace H:((strings_HasPrefix.f (x5_5.extract (x6_14:Int).toNat x5_5.size) (⟨#[36]⟩:ByteArray)).bind fun t456=>(if t456=true then(if 1≤((x5_5.extract (x6_14:Int).toNat x5_5.size).size:Int)then(impl_ReadRef.j3 kj14 a0 ((x5_5.extract (x6_14:Int).toNat x5_5.size).extract 1 (x5_5.extract (x6_14:Int).toNat x5_5.size).size) 0 t455 true x454003_5)else(none))else(impl_ReadRef.j3 kj14 a0 (x5_5.extract (x6_14:Int).toNat x5_5.size) 0 t455 false x454003_5)))=some (r1,r2,r3,r4,r5):=H
       have A24:=Aside0.mk A240
       clear A240
       have c25b0:=eq_true (of_decide_eq_true (by first|(with_reducible assumption)|assumption):0≤x6_14)
       have c26b0:=eq_true (of_decide_eq_true (by first|(with_reducible assumption)|assumption):x6_14≤(x5_5.size:Int))
       replace H:=Option.bind_eq_some_iff.mp H
       obtain⟨t456,A270,H⟩:=H
       replace H:(if t456=true then(if 1≤((x5_5.extract (x6_14:Int).toNat x5_5.size).size:Int)then(impl_ReadRef.j3 kj14 a0 ((x5_5.extract (x6_14:Int).toNat x5_5.size).extract 1 (x5_5.extract (x6_14:Int).toNat x5_5.size).size) 0 t455 true x454003_5)else(none))else(impl_ReadRef.j3 kj14 a0 (x5_5.extract (x6_14:Int).toNat x5_5.size) 0 t455 false x454003_5))=some (r1,r2,r3,r4,r5):=H
       have A27:=Aside0.mk A270
       clear A270
       have HC28:=Aside0.mk H
       clear H
       go_upto_if 45 with (first|((with_reducible refine z8q (f:=122) rfl ?_);refine z17q (some 39) rfl rfl Tryz.func122 (by kernel_rfl) rfl #[.string (x5_5.extract 0 (x6_14:Int).toNat)] rfl (by(try simp only [map_toArray,map_cons,map_nil]);first|done|rfl|(simp only [length_drop,length_take];rfl)) ?_;(with_reducible refine(impl_ColNumber.calls kj14 (x5_5.extract 0 (x6_14:Int).toNat) t455 _ A24.out).mono ?_);rintro e w' ⟨rfl,⟨nd,rfl⟩⟩;refine⟨_,rfl,?_⟩;(try(rw [drewN_self wc];generalize hq_:World.drewN wc _=wc;have n0_:Aside0 (wc.heap[gb452]? =some (.cells #[.int .i64 0,.int .i64 0,.bool false,.bool false] 47 (0,0))):=⟨by rw [←hq_];exact(cy BK452.out)⟩;have n1_:Aside0 (wc.heap[gb453]? =some (.cells #[.int .i64 0,.int .i64 0,.bool false,.bool x454003_5] 47 (0,0))):=⟨by rw [←hq_];exact(cy BK453.out)⟩;have n2_:Aside0 (Below w.heap.size w wc):=⟨by rw [←hq_];exact(ibh HB.out)⟩;clear BK452 BK453 HB hq_;have BK452:=n0_;have BK453:=n1_;have HB:=n2_;clear n0_ n1_ n2_));have hnb29:=NB453_452.out;have hnc29:=NB452_453.out;obtain⟨hcz30_0,hcz30_1,hcz30_2,hcz30_3,hfz30_0,hfz30_1,hfz30_2,hfz30_3⟩:=cr4 (w:=wc) (g:=gb453) BK453.out)|((with_reducible refine z8q (f:=121) rfl ?_);refine z17q (some 45) rfl rfl Tryz.func121 (by kernel_rfl) rfl #[.string (x5_5.extract (x6_14:Int).toNat x5_5.size),.string (⟨#[36]⟩:ByteArray)] rfl (by(try simp only [map_toArray,map_cons,map_nil]);first|done|rfl|(simp only [length_drop,length_take];rfl)) ?_;(with_reducible refine(strings_HasPrefix.calls (x5_5.extract (x6_14:Int).toNat x5_5.size) (⟨#[36]⟩:ByteArray) t456 _ A27.out).mono ?_);rintro e w' ⟨rfl,⟨nd,rfl⟩⟩;refine⟨_,rfl,?_⟩))
       (try simp only [Act.put,setIfInBounds_toArray,set_cons_zero,set_cons_succ])
       go_cut [5] (fun v5 wc=>∃ (kq:Nat) (x5_27:ByteArray) (x454002_27:Bool),v5= .string x5_27∧Aside0 (impl_ReadRef.j3 kq a0 x5_27 0 t455 x454002_27 x454003_5=some (r1,r2,r3,r4,r5))∧Aside0 (kq≤kj14)∧Aside0 (wc.heap[gb452]? =some (.cells #[.int .i64 0,.int .i64 0,.bool false,.bool false] 47 (0,0)))∧Aside0 (wc.heap[gb453]? =some (.cells #[.int .i64 0,.int .i64 t455,.bool x454002_27,.bool x454003_5] 47 (0,0)))∧Aside0 (Below w.heap.size w wc))
       case first=>
        have H:=HC28.out
        clear HC28
        by_cases c31:t456=true
        ·subst c31
         have H1:(if 1≤((x5_5.extract (x6_14:Int).toNat x5_5.size).size:Int)then(impl_ReadRef.j3 kj14 a0 ((x5_5.extract (x6_14:Int).toNat x5_5.size).extract 1 (x5_5.extract (x6_14:Int).toNat x5_5.size).size) 0 t455 true x454003_5)else(none))=some (r1,r2,r3,r4,r5):=by rw [if_pos rfl]at H;exact H
         clear H
         have H:=H1
         clear H1
         by_cases c32:1≤((x5_5.extract (x6_14:Int).toNat x5_5.size).size:Int)
         ·rw [if_pos c32]at H
          have c32b0:=eq_true c32
          have c32b1:decide (1≤((x5_5.extract (x6_14:Int).toNat x5_5.size).size:Int))=true:=decide_eq_true c32
          (try(have c32b06:=c32b0;simp only [ByteArray.size_extract,Nat.min_self,Nat.sub_zero]at c32b06))
          (try(have c32b16:=c32b1;simp only [ByteArray.size_extract,Nat.min_self,Nat.sub_zero]at c32b16))
          clear c32
          have H':=Aside0.mk H
          clear H
          have hnb33:=NB453_452.out
          have hnc33:=NB452_453.out
          obtain⟨hcz34_0,hcz34_1,hcz34_2,hcz34_3,hfz34_0,hfz34_1,hfz34_2,hfz34_3⟩:=cr4 (w:=wc) (g:=gb453) BK453.out
          go_wp2
          go_meet
          case rel=>exact⟨_,((x5_5.extract (x6_14:Int).toNat x5_5.size).extract 1 (x5_5.extract (x6_14:Int).toNat x5_5.size).size),(true),(by first|rfl|(simp;done)|(simp [*];done)|(simp;unfold wrap64;omega)),H',⟨by have:=HJ5.out;have:=HJ14.out;first|omega|exact Nat.le_refl _⟩,⟨by(with_reducible repeat(first|refine z14q ?_ _|refine z16q ?_|refine z10q ?_ _));refine blk_far ?_ NB452_453.out _;(with_reducible repeat(first|refine z14q ?_ _|refine z16q ?_|refine z10q ?_ _));refine blk_far ?_ NB452_453.out _;(with_reducible repeat(first|refine z14q ?_ _|refine z16q ?_|refine z10q ?_ _));exact BK452.out⟩,⟨by refine cz ?_;refine z11q (cs:=#[.int .i64 0,.int .i64 t455,.bool false,.bool x454003_5]) ?_ 2 _ rfl;refine cz ?_;refine z11q (cs:=#[.int .i64 0,.int .i64 0,.bool false,.bool x454003_5]) ?_ 1 _ rfl;(with_reducible repeat(first|refine z14q ?_ _|refine z16q ?_|refine z10q ?_ _));exact BK453.out⟩,⟨by repeat(first|(with_reducible first|exact HB.out|apply z2q|apply z3q|apply z4q|refine z7q ?_ GE452.out|refine z7q ?_ GE453.out)|exact HB.out)⟩⟩
         ·rw [if_neg c32]at H
          exact absurd H (by simp)
        ·replace c31:=Bool.eq_false_iff.mpr c31
         subst c31
         have H1:(impl_ReadRef.j3 kj14 a0 (x5_5.extract (x6_14:Int).toNat x5_5.size) 0 t455 false x454003_5)=some (r1,r2,r3,r4,r5):=by rw [if_neg (show ¬ (false=true)by decide)]at H;exact H
         clear H
         have H:=H1
         clear H1
         have H':=Aside0.mk H
         clear H
         go_wp2
         go_meet
         case rel=>exact⟨_,(x5_5.extract (x6_14:Int).toNat x5_5.size),(false),(by first|rfl|(simp;done)|(simp [*];done)|(simp;unfold wrap64;omega)),H',⟨by have:=HJ5.out;have:=HJ14.out;first|omega|exact Nat.le_refl _⟩,⟨by(with_reducible repeat(first|refine z14q ?_ _|refine z16q ?_|refine z10q ?_ _));refine blk_far ?_ NB452_453.out _;(with_reducible repeat(first|refine z14q ?_ _|refine z16q ?_|refine z10q ?_ _));exact BK452.out⟩,⟨by refine cz ?_;refine z11q (cs:=#[.int .i64 0,.int .i64 0,.bool false,.bool x454003_5]) ?_ 1 _ rfl;(with_reducible repeat(first|refine z14q ?_ _|refine z16q ?_|refine z10q ?_ _));exact BK453.out⟩,⟨by repeat(first|(with_reducible first|exact HB.out|apply z2q|apply z3q|apply z4q|refine z7q ?_ GE452.out|refine z7q ?_ GE453.out)|exact HB.out)⟩⟩
       case rest=>
        clear HC28
        try clear c1
        try clear p1
        try clear q1
        try clear hx1
        try clear c2
        try clear c2b0
        try clear c2b1
        try clear p2
        try clear q2
        try clear hx2
        try clear c3
        try clear p6
        try clear c9
        try clear c10
        try clear c11
        try clear c12
        try clear c12b0
        try clear c12b1
        try clear c13
        try clear c16
        try clear c16b0
        try clear c17
        try clear c17b0
        try clear p18
        try clear q18
        try clear hx18
        try clear c19
        try clear c19b0
        try clear p20
        try clear q20
        try clear hx20
        try clear c21
        try clear c21b0
        try clear c22
        try clear c22b0
        try clear c22b1
        try clear c23
        try clear c23b0
        try clear c23b1
        try clear c25
        try clear c25b0
        try clear c26
        try clear c26b0
        try clear c29
        try clear c31
        try clear c32
        try clear c32b0
        try clear c32b1
        try clear c33
        try clear hcz10_0
        try clear hcz10_1
        try clear hcz10_2
        try clear hcz10_3
        try clear hcz14_0
        try clear hcz14_1
        try clear hcz14_2
        try clear hcz14_3
        try clear hcz30_0
        try clear hcz30_1
        try clear hcz30_2
        try clear hcz30_3
        try clear hcz34_0
        try clear hcz34_1
        try clear hcz34_2
        try clear hcz34_3
        try clear hcz4_0
        try clear hcz4_1
        try clear hcz4_2
        try clear hcz4_3
        try clear hfz10_0
        try clear hfz10_1
        try clear hfz10_2
        try clear hfz10_3
        try clear hfz14_0
        try clear hfz14_1
        try clear hfz14_2
        try clear hfz14_3
        try clear hfz30_0
        try clear hfz30_1
        try clear hfz30_2
        try clear hfz30_3
        try clear hfz34_0
        try clear hfz34_1
        try clear hfz34_2
        try clear hfz34_3
        try clear hfz4_0
        try clear hfz4_1
        try clear hfz4_2
        try clear hfz4_3
        try clear p1
        try clear p18
        try clear p2
        try clear p20
        try clear p6
        try clear q1
        try clear q18
        try clear q2
        try clear q20
        obtain⟨kq,x5_27,x454002_27,rfl,HA,HJ27,BK452,BK453,HB⟩:=hcut
        cases kq with
        |zero=>exact absurd HA.out (by simp [impl_ReadRef.j3])
        |succ kj27=>
         have H:=HA.out
         clear HA
         simp only [impl_ReadRef.j3]at H
         replace H:=Option.bind_eq_some_iff.mp H
         obtain⟨⟨t457,t458⟩,A350,H⟩:=H
         replace H:((impl_GoodRef.f t457 t455 x454002_27 x454003_5).bind fun t459=>(if t459=true then((impl_RefText.f kj27 t457 t455 x454002_27 x454003_5).bind fun t460=>(if t460.toList=a0.toList then(some (t457,t455,x454002_27,x454003_5,true))else(some (0,0,false,false,false))))else(some (0,0,false,false,false))))=some (r1,r2,r3,r4,r5):=H
         have A35:=Aside0.mk A350
         clear A350
         replace H:=Option.bind_eq_some_iff.mp H
         obtain⟨t459,A360,H⟩:=H
         replace H:(if t459=true then((impl_RefText.f kj27 t457 t455 x454002_27 x454003_5).bind fun t460=>(if t460.toList=a0.toList then(some (t457,t455,x454002_27,x454003_5,true))else(some (0,0,false,false,false))))else(some (0,0,false,false,false)))=some (r1,r2,r3,r4,r5):=H
         have A36:=Aside0.mk A360
         clear A360
         by_cases c37:t459=true
         ·subst c37
          have H1:((impl_RefText.f kj27 t457 t455 x454002_27 x454003_5).bind fun t460=>(if t460.toList=a0.toList then(some (t457,t455,x454002_27,x454003_5,true))else(some (0,0,false,false,false))))=some (r1,r2,r3,r4,r5):=by rw [if_pos rfl]at H;exact H
          clear H
          have H:=H1
          clear H1
          replace H:=Option.bind_eq_some_iff.mp H
          obtain⟨t460,A380,H⟩:=H
          replace H:(if t460.toList=a0.toList then(some (t457,t455,x454002_27,x454003_5,true))else(some (0,0,false,false,false)))=some (r1,r2,r3,r4,r5):=H
          have A38:=Aside0.mk A380
          clear A380
          by_cases c39:t460.toList=a0.toList
          ·rw [if_pos c39]at H
           have c39b0:(t460.toList==a0.toList)=true:=beq_iff_eq.mpr c39
           have c39b1:(t460.toList !=a0.toList)=false:=bne_eq_false_iff_eq.mpr c39
           clear c39
           simp only [Option.some.injEq,Prod.mk.injEq]at H
           obtain⟨rfl,rfl,rfl,rfl,rfl⟩:=H
           go_wp2_with (first|((with_reducible refine z8q (f:=100) rfl ?_);refine z17q (some 51) rfl rfl Tryz.func100 (by kernel_rfl) rfl #[.string x5_27] rfl (by(try simp only [map_toArray,map_cons,map_nil]);first|done|rfl|(simp only [length_drop,length_take];rfl)) ?_;(with_reducible refine(strconv_Atoi.calls x5_27 t457 t458 _ (hT.below ib) A35.out).mono ?_);rintro e w40 ⟨ev_w40,rfl,hb,hev_w40⟩;(try(first|(obtain rfl:ev_w40=Value.nilIface:=hev_w40.out)|(obtain⟨N_w40,rfl⟩:=hev_w40.out)));refine⟨_,rfl,?_⟩;have n0_:=Aside0.mk (z12q (cy BK452.out) hb);have n1_:=Aside0.mk (z12q (cy BK453.out) hb);have n2_:=Aside0.mk (z5q (ibh HB.out) hb);clear BK452;clear BK453;clear HB;have BK452:=n0_;have BK453:=n1_;have HB:=n2_;clear n0_ n1_ n2_;(try clear hb);(try clear hb2);(try clear hk);(try clear hi);(try simp only [errW_none,errW_some]);have hnb41:=NB453_452.out;have hnc41:=NB452_453.out;obtain⟨hcz42_0,hcz42_1,hcz42_2,hcz42_3,hfz42_0,hfz42_1,hfz42_2,hfz42_3⟩:=cr4 (w:=w40) (g:=gb453) BK453.out)|((with_reducible refine z8q (f:=49) rfl ?_);refine z17q (some 56) rfl rfl Tryz.func49 (by kernel_rfl) rfl #[.agg #[.int .i64 t457,.int .i64 t455,.bool x454002_27,.bool x454003_5]] rfl (by(try simp only [map_toArray,map_cons,map_nil]);first|done|rfl|(simp only [length_drop,length_take];rfl)) ?_;(with_reducible refine(impl_GoodRef.calls t457 t455 x454002_27 x454003_5 true _ A36.out).mono ?_);rintro e w43 ⟨rfl,hb⟩;refine⟨_,rfl,?_⟩;have n0_:=Aside0.mk (z12q (cy BK452.out) hb);have n1_:=Aside0.mk (z12q (g:=gb453) (o:= .cells #[.int .i64 t457,.int .i64 t455,.bool x454002_27,.bool x454003_5] 47 (0,0)) (by refine cz ?_;refine z11q (cs:=#[.int .i64 0,.int .i64 t455,.bool x454002_27,.bool x454003_5]) ?_ 0 _ rfl;exact cy BK453.out) hb);have n2_:=Aside0.mk (z5q (ibh HB.out) hb);clear BK452;clear BK453;clear HB;have BK452:=n0_;have BK453:=n1_;have HB:=n2_;clear n0_ n1_ n2_;(try clear hb);(try clear hb2);(try clear hk);(try clear hi);obtain⟨hcz44_0,hcz44_1,hcz44_2,hcz44_3,hfz44_0,hfz44_1,hfz44_2,hfz44_3⟩:=cr4 (w:=w43) (g:=gb453) BK453.out)|(go_at_call 123;(with_reducible refine(impl_RefText.calls kj27 t457 t455 x454002_27 x454003_5 t460 _ (hT.below ib) A38.out).mono ?_);rintro e w45 ⟨rfl,hb⟩;have n0_:=Aside0.mk (z12q (cy BK452.out) hb);have n1_:=Aside0.mk (z12q (cy BK453.out) hb);have n2_:=Aside0.mk (z5q (ibh HB.out) hb);clear BK452;clear BK453;clear HB;have BK452:=n0_;have BK453:=n1_;have HB:=n2_;clear n0_ n1_ n2_;(try clear hb);(try clear hb2);(try clear hk);(try clear hi);obtain⟨hcz46_0,hcz46_1,hcz46_2,hcz46_3,hfz46_0,hfz46_1,hfz46_2,hfz46_3⟩:=cr4 (w:=w45) (g:=gb453) BK453.out;obtain⟨hcz47_0,hcz47_1,hcz47_2,hcz47_3,hfz47_0,hfz47_1,hfz47_2,hfz47_3⟩:=cr4 (w:=w45) (g:=gb452) BK452.out))
           refine bodyPost_ret (results_ct rfl _ _ gb452 47 #[.int .i64 t457,.int .i64 t455,.bool x454002_27,.bool x454003_5] (0,0) _ rfl (by refine cz ?_;refine z11q (cs:=#[.int .i64 t457,.int .i64 t455,.bool x454002_27,.bool false]) ?_ 3 _ rfl;refine cz ?_;refine z11q (cs:=#[.int .i64 t457,.int .i64 t455,.bool false,.bool false]) ?_ 2 _ rfl;refine cz ?_;refine z11q (cs:=#[.int .i64 t457,.int .i64 0,.bool false,.bool false]) ?_ 1 _ rfl;refine cz ?_;refine z11q (cs:=#[.int .i64 0,.int .i64 0,.bool false,.bool false]) ?_ 0 _ rfl;exact cy BK452.out) Tryz.underlying47 rfl (by kernel_rfl)) rfl ?_
           exact⟨by first|rfl|(simp [errW_none,errW_some]<;>rfl)|(simp [*,errW_none,errW_some]<;>rfl),by repeat(first|(with_reducible first|exact HB.out|apply z2q|apply z3q|apply z4q|refine z7q ?_ GE452.out|refine z7q ?_ GE453.out)|exact HB.out)⟩
          ·rw [if_neg c39]at H
           have c39b0:(t460.toList==a0.toList)=false:=beq_eq_false_iff_ne.mpr c39
           have c39b1:(t460.toList !=a0.toList)=true:=bne_iff_ne.mpr c39
           simp only [Option.some.injEq,Prod.mk.injEq]at H
           obtain⟨rfl,rfl,rfl,rfl,rfl⟩:=H
           go_wp2_with (first|((with_reducible refine z8q (f:=100) rfl ?_);refine z17q (some 51) rfl rfl Tryz.func100 (by kernel_rfl) rfl #[.string x5_27] rfl (by(try simp only [map_toArray,map_cons,map_nil]);first|done|rfl|(simp only [length_drop,length_take];rfl)) ?_;(with_reducible refine(strconv_Atoi.calls x5_27 t457 t458 _ (hT.below ib) A35.out).mono ?_);rintro e w48 ⟨ev_w48,rfl,hb,hev_w48⟩;(try(first|(obtain rfl:ev_w48=Value.nilIface:=hev_w48.out)|(obtain⟨N_w48,rfl⟩:=hev_w48.out)));refine⟨_,rfl,?_⟩;have n0_:=Aside0.mk (z12q (cy BK452.out) hb);have n1_:=Aside0.mk (z12q (cy BK453.out) hb);have n2_:=Aside0.mk (z5q (ibh HB.out) hb);clear BK452;clear BK453;clear HB;have BK452:=n0_;have BK453:=n1_;have HB:=n2_;clear n0_ n1_ n2_;(try clear hb);(try clear hb2);(try clear hk);(try clear hi);(try simp only [errW_none,errW_some]);have hnb49:=NB453_452.out;have hnc49:=NB452_453.out;obtain⟨hcz50_0,hcz50_1,hcz50_2,hcz50_3,hfz50_0,hfz50_1,hfz50_2,hfz50_3⟩:=cr4 (w:=w48) (g:=gb453) BK453.out)|((with_reducible refine z8q (f:=49) rfl ?_);refine z17q (some 56) rfl rfl Tryz.func49 (by kernel_rfl) rfl #[.agg #[.int .i64 t457,.int .i64 t455,.bool x454002_27,.bool x454003_5]] rfl (by(try simp only [map_toArray,map_cons,map_nil]);first|done|rfl|(simp only [length_drop,length_take];rfl)) ?_;(with_reducible refine(impl_GoodRef.calls t457 t455 x454002_27 x454003_5 true _ A36.out).mono ?_);rintro e w51 ⟨rfl,hb⟩;refine⟨_,rfl,?_⟩;have n0_:=Aside0.mk (z12q (cy BK452.out) hb);have n1_:=Aside0.mk (z12q (g:=gb453) (o:= .cells #[.int .i64 t457,.int .i64 t455,.bool x454002_27,.bool x454003_5] 47 (0,0)) (by refine cz ?_;refine z11q (cs:=#[.int .i64 0,.int .i64 t455,.bool x454002_27,.bool x454003_5]) ?_ 0 _ rfl;exact cy BK453.out) hb);have n2_:=Aside0.mk (z5q (ibh HB.out) hb);clear BK452;clear BK453;clear HB;have BK452:=n0_;have BK453:=n1_;have HB:=n2_;clear n0_ n1_ n2_;(try clear hb);(try clear hb2);(try clear hk);(try clear hi);obtain⟨hcz52_0,hcz52_1,hcz52_2,hcz52_3,hfz52_0,hfz52_1,hfz52_2,hfz52_3⟩:=cr4 (w:=w51) (g:=gb453) BK453.out)|(go_at_call 123;(with_reducible refine(impl_RefText.calls kj27 t457 t455 x454002_27 x454003_5 t460 _ (hT.below ib) A38.out).mono ?_);rintro e w53 ⟨rfl,hb⟩;have n0_:=Aside0.mk (z12q (cy BK452.out) hb);have n1_:=Aside0.mk (z12q (cy BK453.out) hb);have n2_:=Aside0.mk (z5q (ibh HB.out) hb);clear BK452;clear BK453;clear HB;have BK452:=n0_;have BK453:=n1_;have HB:=n2_;clear n0_ n1_ n2_;(try clear hb);(try clear hb2);(try clear hk);(try clear hi);obtain⟨hcz54_0,hcz54_1,hcz54_2,hcz54_3,hfz54_0,hfz54_1,hfz54_2,hfz54_3⟩:=cr4 (w:=w53) (g:=gb452) BK452.out))
           refine bodyPost_ret (results_ct rfl _ _ gb452 47 #[.int .i64 0,.int .i64 0,.bool false,.bool false] (0,0) _ rfl (by refine cz ?_;refine z11q (cs:=#[.int .i64 0,.int .i64 0,.bool false,.bool false]) ?_ 3 _ rfl;refine cz ?_;refine z11q (cs:=#[.int .i64 0,.int .i64 0,.bool false,.bool false]) ?_ 2 _ rfl;refine cz ?_;refine z11q (cs:=#[.int .i64 0,.int .i64 0,.bool false,.bool false]) ?_ 1 _ rfl;refine cz ?_;refine z11q (cs:=#[.int .i64 0,.int .i64 0,.bool false,.bool false]) ?_ 0 _ rfl;exact cy BK452.out) Tryz.underlying47 rfl (by kernel_rfl)) rfl ?_
           exact⟨by first|rfl|(simp [errW_none,errW_some]<;>rfl)|(simp [*,errW_none,errW_some]<;>rfl),by repeat(first|(with_reducible first|exact HB.out|apply z2q|apply z3q|apply z4q|refine z7q ?_ GE452.out|refine z7q ?_ GE453.out)|exact HB.out)⟩
         ·replace c37:=Bool.eq_false_iff.mpr c37
          subst c37
          have H1:(some (0,0,false,false,false))=some (r1,r2,r3,r4,r5):=by rw [if_neg (show ¬ (false=true)by decide)]at H;exact H
          clear H
          have H:=H1
          clear H1
          simp only [Option.some.injEq,Prod.mk.injEq]at H
          obtain⟨rfl,rfl,rfl,rfl,rfl⟩:=H
          go_wp2_with (first|((with_reducible refine z8q (f:=100) rfl ?_);refine z17q (some 51) rfl rfl Tryz.func100 (by kernel_rfl) rfl #[.string x5_27] rfl (by(try simp only [map_toArray,map_cons,map_nil]);first|done|rfl|(simp only [length_drop,length_take];rfl)) ?_;(with_reducible refine(strconv_Atoi.calls x5_27 t457 t458 _ (hT.below ib) A35.out).mono ?_);rintro e w55 ⟨ev_w55,rfl,hb,hev_w55⟩;(try(first|(obtain rfl:ev_w55=Value.nilIface:=hev_w55.out)|(obtain⟨N_w55,rfl⟩:=hev_w55.out)));refine⟨_,rfl,?_⟩;have n0_:=Aside0.mk (z12q (cy BK452.out) hb);have n1_:=Aside0.mk (z12q (cy BK453.out) hb);have n2_:=Aside0.mk (z5q (ibh HB.out) hb);clear BK452;clear BK453;clear HB;have BK452:=n0_;have BK453:=n1_;have HB:=n2_;clear n0_ n1_ n2_;(try clear hb);(try clear hb2);(try clear hk);(try clear hi);(try simp only [errW_none,errW_some]);have hnb56:=NB453_452.out;have hnc56:=NB452_453.out;obtain⟨hcz57_0,hcz57_1,hcz57_2,hcz57_3,hfz57_0,hfz57_1,hfz57_2,hfz57_3⟩:=cr4 (w:=w55) (g:=gb453) BK453.out)|((with_reducible refine z8q (f:=49) rfl ?_);refine z17q (some 56) rfl rfl Tryz.func49 (by kernel_rfl) rfl #[.agg #[.int .i64 t457,.int .i64 t455,.bool x454002_27,.bool x454003_5]] rfl (by(try simp only [map_toArray,map_cons,map_nil]);first|done|rfl|(simp only [length_drop,length_take];rfl)) ?_;(with_reducible refine(impl_GoodRef.calls t457 t455 x454002_27 x454003_5 false _ A36.out).mono ?_);rintro e w58 ⟨rfl,hb⟩;refine⟨_,rfl,?_⟩;have n0_:=Aside0.mk (z12q (cy BK452.out) hb);have n1_:=Aside0.mk (z12q (g:=gb453) (o:= .cells #[.int .i64 t457,.int .i64 t455,.bool x454002_27,.bool x454003_5] 47 (0,0)) (by refine cz ?_;refine z11q (cs:=#[.int .i64 0,.int .i64 t455,.bool x454002_27,.bool x454003_5]) ?_ 0 _ rfl;exact cy BK453.out) hb);have n2_:=Aside0.mk (z5q (ibh HB.out) hb);clear BK452;clear BK453;clear HB;have BK452:=n0_;have BK453:=n1_;have HB:=n2_;clear n0_ n1_ n2_;(try clear hb);(try clear hb2);(try clear hk);(try clear hi);obtain⟨hcz59_0,hcz59_1,hcz59_2,hcz59_3,hfz59_0,hfz59_1,hfz59_2,hfz59_3⟩:=cr4 (w:=w58) (g:=gb452) BK452.out))
          refine bodyPost_ret (results_ct rfl _ _ gb452 47 #[.int .i64 0,.int .i64 0,.bool false,.bool false] (0,0) _ rfl (by refine cz ?_;refine z11q (cs:=#[.int .i64 0,.int .i64 0,.bool false,.bool false]) ?_ 3 _ rfl;refine cz ?_;refine z11q (cs:=#[.int .i64 0,.int .i64 0,.bool false,.bool false]) ?_ 2 _ rfl;refine cz ?_;refine z11q (cs:=#[.int .i64 0,.int .i64 0,.bool false,.bool false]) ?_ 1 _ rfl;refine cz ?_;refine z11q (cs:=#[.int .i64 0,.int .i64 0,.bool false,.bool false]) ?_ 0 _ rfl;exact cy BK452.out) Tryz.underlying47 rfl (by kernel_rfl)) rfl ?_
          exact⟨by first|rfl|(simp [errW_none,errW_some]<;>rfl)|(simp [*,errW_none,errW_some]<;>rfl),by repeat(first|(with_reducible first|exact HB.out|apply z2q|apply z3q|apply z4q|refine z7q ?_ GE452.out|refine z7q ?_ GE453.out)|exact HB.out)⟩
      ·rw [if_neg c23]at H
       exact absurd H (by simp)
     ·rw [if_neg c22]at H
      exact absurd H (by simp)

set_option maxHeartbeats 8000000 in
set_option maxRecDepth 100000 in
theorem impl_ReadRef.calls (k:Nat) (a0:ByteArray) (r1:Int) (r2:Int) (r3:Bool) (r4:Bool) (r5:Bool) (w:World) (hT:Tab w) (h:impl_ReadRef.f k a0=some (r1,r2,r3,r4,r5)):
  Calls Tryz.prog 107 #[.string a0] w fun e w'=>e= .returned (.tuple #[.agg #[.int .i64 r1,.int .i64 r2,.bool r3,.bool r4],.bool r5])∧Below w.heap.size w w':=by
 have H:(if(a0.size:Int) > 12 then(some (0,0,false,false,false))else((strings_HasPrefix.f a0 (⟨#[36]⟩:ByteArray)).bind fun t454=>(if t454=true then(if 1≤(a0.size:Int)then(impl_ReadRef.j0 k a0 (a0.extract 1 a0.size) 0 0 false true)else(none))else(impl_ReadRef.j0 k a0 a0 0 0 false false))))=some (r1,r2,r3,r4,r5):=h
 by_cases c2:(a0.size:Int) > 12
 ·rw [if_pos c2]at H
  exact impl_ReadRef.calls_p1 k a0 r1 r2 r3 r4 r5 w hT c2 H
 ·rw [if_neg c2]at H
  replace H:=Option.bind_eq_some_iff.mp H
  obtain⟨t454,A50,H⟩:=H
  replace H:(if t454=true then(if 1≤(a0.size:Int)then(impl_ReadRef.j0 k a0 (a0.extract 1 a0.size) 0 0 false true)else(none))else(impl_ReadRef.j0 k a0 a0 0 0 false false))=some (r1,r2,r3,r4,r5):=H
  have A5:=Aside0.mk A50
  clear A50
  exact impl_ReadRef.calls_p2 k a0 r1 r2 r3 r4 r5 w hT t454 A5 c2 H

/-! ### impl_isName: function 98 -/

mutual
def impl_isName.j0:Nat→ByteArray→Bool→Option (Bool)
 |0,_,_=>none
 |k+1,x0,x25=>if x25=true then(some false)else(impl_isName.l0 k x0 0)
def impl_isName.l0:Nat→ByteArray→Int→Option (Bool)
 |0,_,_=>none
 |k+1,x0,x3=>if x3<(x0.size:Int)then(if 0≤x3 then((impl_isLetter.f (bt x0 x3)).bind fun t462=>(if t462=true then(impl_isName.l0 k x0 (wrap64 (x3+1)))else((impl_isDigit.f (bt x0 x3)).bind fun t463=>(if t463=true then(impl_isName.l0 k x0 (wrap64 (x3+1)))else(if(bt x0 x3)=95 then(impl_isName.l0 k x0 (wrap64 (x3+1)))else(if(bt x0 x3)=46 then(impl_isName.l0 k x0 (wrap64 (x3+1)))else(some false)))))))else(none))else((impl_capitals.f x0).bind fun t464=>(if t464.toList=([84,82,85,69]:List UInt8)then(some false)else(if t464.toList=([70,65,76,83,69]:List UInt8)then(some false)else((impl_likeBy.f k t464).bind fun t465=>(if t465=true then(some false)else((impl_ReadRef.f k t464).bind fun bt466=>(some (!bt466.2.2.2.2))))))))
end

def impl_isName.f (k:Nat) (a0:ByteArray):Option (Bool):=if(a0.size:Int)<1 then(impl_isName.j0 k a0 true)else(if(a0.size:Int) > 20 then(impl_isName.j0 k a0 true)else(if 0<(a0.size:Int)then((impl_isLetter.f (bt a0 0)).bind fun t461=>(if t461=true then(impl_isName.j0 k a0 false)else(impl_isName.j0 k a0 ((bt a0 0) !=95))))else(none)))

end Go.Proofs.YtegdpgpbdcediaaGreatDoor.PFnExactUsedNames
