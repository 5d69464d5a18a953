/- Functions of the program as Lean functions, and proofs that the Go code comes to their answers: for the law FnExactUsedNames; made out of the print by a program of mine (compact.py). No conditions but each theorem's own. -/
import Derived.Test.YtegdpgpbdcediaaGreatDoorMFnExactUsedNamesa0
import Derived.Test.YtegdpgpbdcediaaGreatDoorMFnExactUsedNamesa7
import Derived.Test.YtegdpgpbdcediaaGreatDoorMFnExactUsedNamesa9
import Derived.Test.YtegdpgpbdcediaaGreatDoorMFnExactUsedNamesa10
import Derived.Test.YtegdpgpbdcediaaGreatDoorMFnExactUsedNamesa11
import Derived.Test.YtegdpgpbdcediaaGreatDoorMFnExactUsedNamesa12
namespace Go.Proofs.YtegdpgpbdcediaaGreatDoor.PFnExactUsedNames
open List (map_toArray map_cons map_nil length_drop length_take set_cons_zero set_cons_succ setIfInBounds_toArray)
open Go.RowKit Go.Proofs.YtegdpgpbdcediaaGreatDoorW.PrintWords Go.Proofs.YtegdpgpbdcediaaGreatDoorW.PrintLast Go.Proofs.YtegdpgpbdcediaaGreatDoorW.PrintMore
attribute [local go_sem] max2_int min2_int max_two min_two max_three min_three max_four min_four   -- for this text's walks alone
set_option linter.unusedVariables false
set_option linter.unusedSimpArgs false

attribute [local go_sem high] eqA47 eqA65
set_option maxHeartbeats 8000000 in
set_option maxRecDepth 100000 in
theorem impl_isName.calls (k:Nat) (a0:ByteArray) (r:Bool) (w:World) (hT:Tab w) (h:impl_isName.f k a0=some r):
  Calls Tryz.prog 98 #[.string a0] w fun e w'=>e= .returned (.bool r)∧Below w.heap.size w w':=by
 have hu47:=Tryz.underlying47
 have HB:=Aside0.mk (Below.refl w.heap.size w)
 have H:(if(a0.size:Int)<1 then(impl_isName.j0 k a0 true)else(if(a0.size:Int) > 20 then(impl_isName.j0 k a0 true)else(if 0<(a0.size:Int)then((impl_isLetter.f (bt a0 0)).bind fun t461=>(if t461=true then(impl_isName.j0 k a0 false)else(impl_isName.j0 k a0 ((bt a0 0) !=95))))else(none))))=some r:=h
 clear h
 have HC2:=Aside0.mk H
 clear H
 go_enter Tryz.func98,Tryz.ntmps98
 go_upto_region 1 with (fail)
 go_cut [25] (fun v25 wc=>∃ (kq:Nat) (x25_1:Bool),v25= .bool x25_1∧Aside0 (impl_isName.j0 kq a0 x25_1=some r)∧Aside0 (kq≤k)∧Aside0 (Below w.heap.size w wc))
 case first=>
  have H:=HC2.out
  clear HC2
  by_cases c3:(a0.size:Int)<1
  ·rw [if_pos c3]at H
   have c3b0:decide ((a0.size:Int)<1)=true:=decide_eq_true c3
   have c3b1:decide (a0.size<1)=true:=decide_eq_true (by omega)
   clear c3
   (first|rw [c3b0]|(simp only [i64_w,i32_w];rw [c3b0])|skip)
   have H':=Aside0.mk H
   clear H
   go_wp2
   go_meet
   case rel=>exact⟨_,(true),(by first|rfl|(simp;done)|(simp [*];done)|(simp;unfold wrap64;omega)),H',⟨by first|omega|exact Nat.le_refl _⟩,⟨by repeat(first|(with_reducible first|exact HB.out|apply z2q|apply z3q|apply z4q)|exact HB.out)⟩⟩
  ·rw [if_neg c3]at H
   have c3b0:decide ((a0.size:Int)<1)=false:=decide_eq_false c3
   have c3b1:decide (a0.size<1)=false:=decide_eq_false (by omega)
   clear c3
   (first|rw [c3b0]|(simp only [i64_w,i32_w];rw [c3b0])|skip)
   by_cases c4:(a0.size:Int) > 20
   ·rw [if_pos c4]at H
    have c4b0:decide (20<(a0.size:Int))=true:=decide_eq_true c4
    have c4b1:decide (20<a0.size)=true:=decide_eq_true (by omega)
    clear c4
    have H':=Aside0.mk H
    clear H
    go_wp2
    go_meet
    case rel=>exact⟨_,(true),(by first|rfl|(simp;done)|(simp [*];done)|(simp;unfold wrap64;omega)),H',⟨by first|omega|exact Nat.le_refl _⟩,⟨by repeat(first|(with_reducible first|exact HB.out|apply z2q|apply z3q|apply z4q)|exact HB.out)⟩⟩
   ·rw [if_neg c4]at H
    have c4b0:decide (20<(a0.size:Int))=false:=decide_eq_false c4
    have c4b1:decide (20<a0.size)=false:=decide_eq_false (by omega)
    clear c4
    by_cases c5:0<(a0.size:Int)
    ·rw [if_pos c5]at H
     have c5b0:decide (0<(a0.size:Int))=true:=decide_eq_true c5
     have c5b1:decide (0<a0.size)=true:=decide_eq_true (by omega)
     clear c5
     replace H:=Option.bind_eq_some_iff.mp H
     obtain⟨t461,A70,H⟩:=H
     replace H:(if t461=true then(impl_isName.j0 k a0 false)else(impl_isName.j0 k a0 ((bt a0 0) !=95)))=some r:=H
     have A7:=Aside0.mk A70
     clear A70
     by_cases c8:t461=true
     ·subst c8
      have H1:(impl_isName.j0 k a0 false)=some r:=by rw [if_pos rfl]at H;exact H
      clear H
      have H:=H1
      clear H1
      have H':=Aside0.mk H
      clear H
      have p6:0≤(0:Int):=(by omega)
      have q6:0<a0.size:=(by have:(0:Int)<(a0.size:Int):=of_decide_eq_true (by first|(with_reducible assumption)|assumption);omega)
      have hx6:∀ h:0<a0.size,((a0[0]'h).toNat:Int)=bt a0 0:=bt_at a0 0
      clear p6
      have qi6:(0<(a0.size:Int))=True:=eq_true (of_decide_eq_true (by first|(with_reducible assumption)|assumption))
      replace q6:=eq_true q6
      go_wp2_with (first|(go_at_call 104;(with_reducible refine(impl_isLetter.calls (bt a0 0) true _ A7.out).mono ?_);rintro e w' ⟨rfl,⟨nd,rfl⟩⟩))
      go_meet
      case rel=>exact⟨_,(false),(by first|rfl|(simp;done)|(simp [*];done)|(simp;unfold wrap64;omega)),H',⟨by first|omega|exact Nat.le_refl _⟩,⟨by repeat(first|(with_reducible first|exact HB.out|apply z2q|apply z3q|apply z4q)|exact HB.out)⟩⟩
     ·replace c8:=Bool.eq_false_iff.mpr c8
      subst c8
      have H1:(impl_isName.j0 k a0 ((bt a0 0) !=95))=some r:=by rw [if_neg (show ¬ (false=true)by decide)]at H;exact H
      clear H
      have H:=H1
      clear H1
      have H':=Aside0.mk H
      clear H
      have p6:0≤(0:Int):=(by omega)
      have q6:0<a0.size:=(by have:(0:Int)<(a0.size:Int):=of_decide_eq_true (by first|(with_reducible assumption)|assumption);omega)
      have hx6:∀ h:0<a0.size,((a0[0]'h).toNat:Int)=bt a0 0:=bt_at a0 0
      clear p6
      have qi6:(0<(a0.size:Int))=True:=eq_true (of_decide_eq_true (by first|(with_reducible assumption)|assumption))
      replace q6:=eq_true q6
      go_wp2_with (first|(go_at_call 104;(with_reducible refine(impl_isLetter.calls (bt a0 0) false _ A7.out).mono ?_);rintro e w' ⟨rfl,⟨nd,rfl⟩⟩;have p9:0≤(0:Int):=(by omega);have q9:0<a0.size:=(by have:(0:Int)<(a0.size:Int):=of_decide_eq_true (by first|(with_reducible assumption)|assumption);omega);have hx9:∀ h:0<a0.size,((a0[0]'h).toNat:Int)=bt a0 0:=bt_at a0 0;clear p9;have qi9:(0<(a0.size:Int))=True:=eq_true (of_decide_eq_true (by first|(with_reducible assumption)|assumption));replace q9:=eq_true q9))
      go_meet
      case rel=>exact⟨_,(((bt a0 0) !=95)),(by first|rfl|(simp;done)|(simp [*];done)|(simp;unfold wrap64;omega)),H',⟨by first|omega|exact Nat.le_refl _⟩,⟨by repeat(first|(with_reducible first|exact HB.out|apply z2q|apply z3q|apply z4q)|exact HB.out)⟩⟩
    ·rw [if_neg c5]at H
     exact absurd H (by simp)
 case rest=>
  clear HC2
  try clear p2
  try clear c3
  try clear c3b0
  try clear c3b1
  try clear c4
  try clear c4b0
  try clear c4b1
  try clear c5
  try clear c5b0
  try clear c5b1
  try clear p6
  try clear q6
  try clear hx6
  try clear qi6
  try clear c8
  try clear c9
  try clear p9
  try clear q9
  try clear hx9
  try clear qi9
  try clear p6
  try clear p9
  try clear q6
  try clear q9
  obtain⟨kq,x25_1,rfl,HA,HJ1,HB⟩:=hcut
  cases kq with
  |zero=>exact absurd HA.out (by simp [impl_isName.j0])
  |succ kj1=>
   have H:=HA.out
   clear HA
   simp only [impl_isName.j0]at H
   by_cases c10:x25_1=true
   ·subst c10
    have H1:(some false)=some r:=by rw [if_pos rfl]at H;exact H
    clear H
    have H:=H1
    clear H1
    obtain rfl:=Option.some.inj H
    go_wp2
    go_ret
    exact⟨by first|rfl|(simp [errW_none,errW_some]<;>rfl)|(simp [*,errW_none,errW_some]<;>rfl),by repeat(first|(with_reducible first|exact HB.out|apply z2q|apply z3q|apply z4q)|exact HB.out)⟩
   ·replace c10:=Bool.eq_false_iff.mpr c10
    subst c10
    have H1:(impl_isName.l0 kj1 a0 0)=some r:=by rw [if_neg (show ¬ (false=true)by decide)]at H;exact H
    clear H
    have H:=H1
    clear H1
    have H':=Aside0.mk H
    clear H
    go_wp2
    go_loopg [3] kj1 (fun kq v3 w'=>∃ (x3_2:Int),v3= .int .i64 x3_2∧Aside0 (impl_isName.l0 kq a0 x3_2=some r)∧Aside0 (kq≤kj1)∧Aside0 (Below w.heap.size w w'))
    case atStart=>exact⟨(0),(by first|rfl|(simp;done)|(simp [*];done)|(simp;unfold wrap64;omega)),H',⟨Nat.le_refl _⟩,⟨by repeat(first|(with_reducible first|exact HB.out|apply z2q|apply z3q|apply z4q)|exact HB.out)⟩⟩
    case round=>
     clear H'
     try clear c1
     try clear p2
     try clear c3
     try clear c3b0
     try clear c3b1
     try clear c4
     try clear c4b0
     try clear c4b1
     try clear c5
     try clear c5b0
     try clear c5b1
     try clear p6
     try clear q6
     try clear hx6
     try clear qi6
     try clear c8
     try clear c9
     try clear p9
     try clear q9
     try clear hx9
     try clear qi9
     try clear c10
     try clear p2
     try clear p6
     try clear p9
     try clear q6
     try clear q9
     obtain⟨x3_2,rfl,HA,HK2,HB⟩:=hrel
     cases gk with
     |zero=>exact absurd HA.out (by simp [impl_isName.l0])
     |succ k2=>
      have H:=HA.out
      clear HA
      simp only [impl_isName.l0]at H
      by_cases c11:x3_2<(a0.size:Int)
      ·rw [if_pos c11]at H
       have c11b0:decide (x3_2<(a0.size:Int))=true:=decide_eq_true c11
       clear c11
       by_cases c12:0≤x3_2
       ·rw [if_pos c12]at H
        have c12b0:decide (0≤x3_2)=true:=decide_eq_true c12
        clear c12
        replace H:=Option.bind_eq_some_iff.mp H
        obtain⟨t462,A140,H⟩:=H
        replace H:(if t462=true then(impl_isName.l0 k2 a0 (wrap64 (x3_2+1)))else((impl_isDigit.f (bt a0 x3_2)).bind fun t463=>(if t463=true then(impl_isName.l0 k2 a0 (wrap64 (x3_2+1)))else(if(bt a0 x3_2)=95 then(impl_isName.l0 k2 a0 (wrap64 (x3_2+1)))else(if(bt a0 x3_2)=46 then(impl_isName.l0 k2 a0 (wrap64 (x3_2+1)))else(some false))))))=some r:=H
        have A14:=Aside0.mk A140
        clear A140
        by_cases c15:t462=true
        ·subst c15
         have H1:(impl_isName.l0 k2 a0 (wrap64 (x3_2+1)))=some r:=by rw [if_pos rfl]at H;exact H
         clear H
         have H:=H1
         clear H1
         have H':=Aside0.mk H
         clear H
         have p13:0≤(x3_2:Int):=of_decide_eq_true (by first|(with_reducible assumption)|assumption)
         have q13:x3_2<(a0.size:Int):=of_decide_eq_true (by first|(with_reducible assumption)|assumption)
         have hx13:=bt_at a0 x3_2
         replace p13:=eq_true p13
         replace q13:=eq_true q13
         go_wp2_with (first|((with_reducible refine z8q (f:=104) rfl ?_);refine z17q (some 35) rfl rfl Tryz.func104 (by kernel_rfl) rfl #[.int .u8 (bt a0 x3_2)] rfl (by(try simp only [map_toArray,map_cons,map_nil]);first|done|rfl|(simp only [length_drop,length_take];rfl)) ?_;(with_reducible refine(impl_isLetter.calls (bt a0 x3_2) true _ A14.out).mono ?_);rintro e w' ⟨rfl,⟨nd,rfl⟩⟩;refine⟨_,rfl,?_⟩))
         go_roundg k2
         case measure=>have:=HJ1.out;have:=HK2.out;omega
         case rel=>exact⟨(wrap64 (x3_2+1)),(by first|rfl|(simp;done)|(simp [*];done)|(simp;unfold wrap64;omega)),H',⟨by have:=HJ1.out;have:=HK2.out;omega⟩,⟨by repeat(first|(with_reducible first|exact HB.out|apply z2q|apply z3q|apply z4q)|exact HB.out)⟩⟩
        ·replace c15:=Bool.eq_false_iff.mpr c15
         subst c15
         have H1:((impl_isDigit.f (bt a0 x3_2)).bind fun t463=>(if t463=true then(impl_isName.l0 k2 a0 (wrap64 (x3_2+1)))else(if(bt a0 x3_2)=95 then(impl_isName.l0 k2 a0 (wrap64 (x3_2+1)))else(if(bt a0 x3_2)=46 then(impl_isName.l0 k2 a0 (wrap64 (x3_2+1)))else(some false)))))=some r:=by rw [if_neg (show ¬ (false=true)by decide)]at H;exact H
         clear H
         have H:=H1
         clear H1
         replace H:=Option.bind_eq_some_iff.mp H
         obtain⟨t463,A170,H⟩:=H
         replace H:(if t463=true then(impl_isName.l0 k2 a0 (wrap64 (x3_2+1)))else(if(bt a0 x3_2)=95 then(impl_isName.l0 k2 a0 (wrap64 (x3_2+1)))else(if(bt a0 x3_2)=46 then(impl_isName.l0 k2 a0 (wrap64 (x3_2+1)))else(some false))))=some r:=H
         have A17:=Aside0.mk A170
         clear A170
         by_cases c18:t463=true
         ·subst c18
          have H1:(impl_isName.l0 k2 a0 (wrap64 (x3_2+1)))=some r:=by rw [if_pos rfl]at H;exact H
          clear H
          have H:=H1
          clear H1
          have H':=Aside0.mk H
          clear H
          have p13:0≤(x3_2:Int):=of_decide_eq_true (by first|(with_reducible assumption)|assumption)
          have q13:x3_2<(a0.size:Int):=of_decide_eq_true (by first|(with_reducible assumption)|assumption)
          have hx13:=bt_at a0 x3_2
          replace p13:=eq_true p13
          replace q13:=eq_true q13
          go_wp2_with (first|((with_reducible refine z8q (f:=104) rfl ?_);refine z17q (some 35) rfl rfl Tryz.func104 (by kernel_rfl) rfl #[.int .u8 (bt a0 x3_2)] rfl (by(try simp only [map_toArray,map_cons,map_nil]);first|done|rfl|(simp only [length_drop,length_take];rfl)) ?_;(with_reducible refine(impl_isLetter.calls (bt a0 x3_2) false _ A14.out).mono ?_);rintro e w' ⟨rfl,⟨nd,rfl⟩⟩;refine⟨_,rfl,?_⟩;have p16:0≤(x3_2:Int):=of_decide_eq_true (by first|(with_reducible assumption)|assumption);have q16:x3_2<(a0.size:Int):=of_decide_eq_true (by first|(with_reducible assumption)|assumption);have hx16:=bt_at a0 x3_2;replace p16:=eq_true p16;replace q16:=eq_true q16)|(go_at_call 105;(with_reducible refine(impl_isDigit.calls (bt a0 x3_2) true _ A17.out).mono ?_);rintro e w' ⟨rfl,⟨nd,rfl⟩⟩))
          go_roundg k2
          case measure=>have:=HJ1.out;have:=HK2.out;omega
          case rel=>exact⟨(wrap64 (x3_2+1)),(by first|rfl|(simp;done)|(simp [*];done)|(simp;unfold wrap64;omega)),H',⟨by have:=HJ1.out;have:=HK2.out;omega⟩,⟨by repeat(first|(with_reducible first|exact HB.out|apply z2q|apply z3q|apply z4q)|exact HB.out)⟩⟩
         ·replace c18:=Bool.eq_false_iff.mpr c18
          subst c18
          have H1:(if(bt a0 x3_2)=95 then(impl_isName.l0 k2 a0 (wrap64 (x3_2+1)))else(if(bt a0 x3_2)=46 then(impl_isName.l0 k2 a0 (wrap64 (x3_2+1)))else(some false)))=some r:=by rw [if_neg (show ¬ (false=true)by decide)]at H;exact H
          clear H
          have H:=H1
          clear H1
          by_cases c20:(bt a0 x3_2)=95
          ·rw [if_pos c20]at H
           have c20b0:((bt a0 x3_2)==95)=true:=beq_iff_eq.mpr c20
           have c20b1:((bt a0 x3_2) !=95)=false:=bne_eq_false_iff_eq.mpr c20
           clear c20
           have H':=Aside0.mk H
           clear H
           have p13:0≤(x3_2:Int):=of_decide_eq_true (by first|(with_reducible assumption)|assumption)
           have q13:x3_2<(a0.size:Int):=of_decide_eq_true (by first|(with_reducible assumption)|assumption)
           have hx13:=bt_at a0 x3_2
           replace p13:=eq_true p13
           replace q13:=eq_true q13
           go_wp2_with (first|((with_reducible refine z8q (f:=104) rfl ?_);refine z17q (some 35) rfl rfl Tryz.func104 (by kernel_rfl) rfl #[.int .u8 (bt a0 x3_2)] rfl (by(try simp only [map_toArray,map_cons,map_nil]);first|done|rfl|(simp only [length_drop,length_take];rfl)) ?_;(with_reducible refine(impl_isLetter.calls (bt a0 x3_2) false _ A14.out).mono ?_);rintro e w' ⟨rfl,⟨nd,rfl⟩⟩;refine⟨_,rfl,?_⟩;have p16:0≤(x3_2:Int):=of_decide_eq_true (by first|(with_reducible assumption)|assumption);have q16:x3_2<(a0.size:Int):=of_decide_eq_true (by first|(with_reducible assumption)|assumption);have hx16:=bt_at a0 x3_2;replace p16:=eq_true p16;replace q16:=eq_true q16)|(go_at_call 105;(with_reducible refine(impl_isDigit.calls (bt a0 x3_2) false _ A17.out).mono ?_);rintro e w' ⟨rfl,⟨nd,rfl⟩⟩;have p19:0≤(x3_2:Int):=of_decide_eq_true (by first|(with_reducible assumption)|assumption);have q19:x3_2<(a0.size:Int):=of_decide_eq_true (by first|(with_reducible assumption)|assumption);have hx19:=bt_at a0 x3_2;replace p19:=eq_true p19;replace q19:=eq_true q19))
           go_roundg k2
           case measure=>have:=HJ1.out;have:=HK2.out;omega
           case rel=>exact⟨(wrap64 (x3_2+1)),(by first|rfl|(simp;done)|(simp [*];done)|(simp;unfold wrap64;omega)),H',⟨by have:=HJ1.out;have:=HK2.out;omega⟩,⟨by repeat(first|(with_reducible first|exact HB.out|apply z2q|apply z3q|apply z4q)|exact HB.out)⟩⟩
          ·rw [if_neg c20]at H
           have c20b0:((bt a0 x3_2)==95)=false:=beq_eq_false_iff_ne.mpr c20
           have c20b1:((bt a0 x3_2) !=95)=true:=bne_iff_ne.mpr c20
           by_cases c22:(bt a0 x3_2)=46
           ·rw [if_pos c22]at H
            have c22b0:((bt a0 x3_2)==46)=true:=beq_iff_eq.mpr c22
            have c22b1:((bt a0 x3_2) !=46)=false:=bne_eq_false_iff_eq.mpr c22
            clear c22
            have H':=Aside0.mk H
            clear H
            have p13:0≤(x3_2:Int):=of_decide_eq_true (by first|(with_reducible assumption)|assumption)
            have q13:x3_2<(a0.size:Int):=of_decide_eq_true (by first|(with_reducible assumption)|assumption)
            have hx13:=bt_at a0 x3_2
            replace p13:=eq_true p13
            replace q13:=eq_true q13
            go_wp2_with (first|((with_reducible refine z8q (f:=104) rfl ?_);refine z17q (some 35) rfl rfl Tryz.func104 (by kernel_rfl) rfl #[.int .u8 (bt a0 x3_2)] rfl (by(try simp only [map_toArray,map_cons,map_nil]);first|done|rfl|(simp only [length_drop,length_take];rfl)) ?_;(with_reducible refine(impl_isLetter.calls (bt a0 x3_2) false _ A14.out).mono ?_);rintro e w' ⟨rfl,⟨nd,rfl⟩⟩;refine⟨_,rfl,?_⟩;have p16:0≤(x3_2:Int):=of_decide_eq_true (by first|(with_reducible assumption)|assumption);have q16:x3_2<(a0.size:Int):=of_decide_eq_true (by first|(with_reducible assumption)|assumption);have hx16:=bt_at a0 x3_2;replace p16:=eq_true p16;replace q16:=eq_true q16)|(go_at_call 105;(with_reducible refine(impl_isDigit.calls (bt a0 x3_2) false _ A17.out).mono ?_);rintro e w' ⟨rfl,⟨nd,rfl⟩⟩;have p19:0≤(x3_2:Int):=of_decide_eq_true (by first|(with_reducible assumption)|assumption);have q19:x3_2<(a0.size:Int):=of_decide_eq_true (by first|(with_reducible assumption)|assumption);have hx19:=bt_at a0 x3_2;replace p19:=eq_true p19;replace q19:=eq_true q19;have p21:0≤(x3_2:Int):=of_decide_eq_true (by first|(with_reducible assumption)|assumption);have q21:x3_2<(a0.size:Int):=of_decide_eq_true (by first|(with_reducible assumption)|assumption);have hx21:=bt_at a0 x3_2;replace p21:=eq_true p21;replace q21:=eq_true q21))
            go_roundg k2
            case measure=>have:=HJ1.out;have:=HK2.out;omega
            case rel=>exact⟨(wrap64 (x3_2+1)),(by first|rfl|(simp;done)|(simp [*];done)|(simp;unfold wrap64;omega)),H',⟨by have:=HJ1.out;have:=HK2.out;omega⟩,⟨by repeat(first|(with_reducible first|exact HB.out|apply z2q|apply z3q|apply z4q)|exact HB.out)⟩⟩
           ·rw [if_neg c22]at H
            have c22b0:((bt a0 x3_2)==46)=false:=beq_eq_false_iff_ne.mpr c22
            have c22b1:((bt a0 x3_2) !=46)=true:=bne_iff_ne.mpr c22
            obtain rfl:=Option.some.inj H
            have p13:0≤(x3_2:Int):=of_decide_eq_true (by first|(with_reducible assumption)|assumption)
            have q13:x3_2<(a0.size:Int):=of_decide_eq_true (by first|(with_reducible assumption)|assumption)
            have hx13:=bt_at a0 x3_2
            replace p13:=eq_true p13
            replace q13:=eq_true q13
            go_wp2_with (first|((with_reducible refine z8q (f:=104) rfl ?_);refine z17q (some 35) rfl rfl Tryz.func104 (by kernel_rfl) rfl #[.int .u8 (bt a0 x3_2)] rfl (by(try simp only [map_toArray,map_cons,map_nil]);first|done|rfl|(simp only [length_drop,length_take];rfl)) ?_;(with_reducible refine(impl_isLetter.calls (bt a0 x3_2) false _ A14.out).mono ?_);rintro e w' ⟨rfl,⟨nd,rfl⟩⟩;refine⟨_,rfl,?_⟩;have p16:0≤(x3_2:Int):=of_decide_eq_true (by first|(with_reducible assumption)|assumption);have q16:x3_2<(a0.size:Int):=of_decide_eq_true (by first|(with_reducible assumption)|assumption);have hx16:=bt_at a0 x3_2;replace p16:=eq_true p16;replace q16:=eq_true q16)|(go_at_call 105;(with_reducible refine(impl_isDigit.calls (bt a0 x3_2) false _ A17.out).mono ?_);rintro e w' ⟨rfl,⟨nd,rfl⟩⟩;have p19:0≤(x3_2:Int):=of_decide_eq_true (by first|(with_reducible assumption)|assumption);have q19:x3_2<(a0.size:Int):=of_decide_eq_true (by first|(with_reducible assumption)|assumption);have hx19:=bt_at a0 x3_2;replace p19:=eq_true p19;replace q19:=eq_true q19;have p21:0≤(x3_2:Int):=of_decide_eq_true (by first|(with_reducible assumption)|assumption);have q21:x3_2<(a0.size:Int):=of_decide_eq_true (by first|(with_reducible assumption)|assumption);have hx21:=bt_at a0 x3_2;replace p21:=eq_true p21;replace q21:=eq_true q21))
            go_ret
            exact⟨by first|rfl|(simp [errW_none,errW_some]<;>rfl)|(simp [*,errW_none,errW_some]<;>rfl),by repeat(first|(with_reducible first|exact HB.out|apply z2q|apply z3q|apply z4q)|exact HB.out)⟩
       ·rw [if_neg c12]at H
        exact absurd H (by simp)
      ·rw [if_neg c11]at H
       have c11b0:decide (x3_2<(a0.size:Int))=false:=decide_eq_false c11
       clear c11
       replace H:=Option.bind_eq_some_iff.mp H
       obtain⟨t464,A230,H⟩:=H
       replace H:(if t464.toList=([84,82,85,69]:List UInt8)then(some false)else(if t464.toList=([70,65,76,83,69]:List UInt8)then(some false)else((impl_likeBy.f k2 t464).bind fun t465=>(if t465=true then(some false)else((impl_ReadRef.f k2 t464).bind fun bt466=>(some (!bt466.2.2.2.2)))))))=some r:=H
       have A23:=Aside0.mk A230
       clear A230
       by_cases c24:t464.toList=([84,82,85,69]:List UInt8)
       ·rw [if_pos c24]at H
        have c24b0:(t464.toList==([84,82,85,69]:List UInt8))=true:=beq_iff_eq.mpr c24
        have c24b1:(t464.toList !=([84,82,85,69]:List UInt8))=false:=bne_eq_false_iff_eq.mpr c24
        clear c24
        obtain rfl:=Option.some.inj H
        go_wp2_with (first|((with_reducible refine z8q (f:=41) rfl ?_);refine z17q (some 57) rfl rfl Tryz.func41 (by kernel_rfl) rfl #[.string a0] rfl (by(try simp only [map_toArray,map_cons,map_nil]);first|done|rfl|(simp only [length_drop,length_take];rfl)) ?_;(with_reducible refine(impl_capitals.calls a0 t464 _ A23.out).mono ?_);rintro e w25 ⟨rfl,hb⟩;refine⟨_,rfl,?_⟩;have n0_:=Aside0.mk (z5q (ibh HB.out) hb);clear HB;have HB:=n0_;clear n0_;(try clear hb);(try clear hb2);(try clear hk);(try clear hi)))
        go_ret
        exact⟨by first|rfl|(simp [errW_none,errW_some]<;>rfl)|(simp [*,errW_none,errW_some]<;>rfl),by repeat(first|(with_reducible first|exact HB.out|apply z2q|apply z3q|apply z4q)|exact HB.out)⟩
       ·rw [if_neg c24]at H
        have c24b0:(t464.toList==([84,82,85,69]:List UInt8))=false:=beq_eq_false_iff_ne.mpr c24
        have c24b1:(t464.toList !=([84,82,85,69]:List UInt8))=true:=bne_iff_ne.mpr c24
        by_cases c26:t464.toList=([70,65,76,83,69]:List UInt8)
        ·rw [if_pos c26]at H
         have c26b0:(t464.toList==([70,65,76,83,69]:List UInt8))=true:=beq_iff_eq.mpr c26
         have c26b1:(t464.toList !=([70,65,76,83,69]:List UInt8))=false:=bne_eq_false_iff_eq.mpr c26
         clear c26
         obtain rfl:=Option.some.inj H
         go_wp2_with (first|((with_reducible refine z8q (f:=41) rfl ?_);refine z17q (some 57) rfl rfl Tryz.func41 (by kernel_rfl) rfl #[.string a0] rfl (by(try simp only [map_toArray,map_cons,map_nil]);first|done|rfl|(simp only [length_drop,length_take];rfl)) ?_;(with_reducible refine(impl_capitals.calls a0 t464 _ A23.out).mono ?_);rintro e w27 ⟨rfl,hb⟩;refine⟨_,rfl,?_⟩;have n0_:=Aside0.mk (z5q (ibh HB.out) hb);clear HB;have HB:=n0_;clear n0_;(try clear hb);(try clear hb2);(try clear hk);(try clear hi)))
         go_ret
         exact⟨by first|rfl|(simp [errW_none,errW_some]<;>rfl)|(simp [*,errW_none,errW_some]<;>rfl),by repeat(first|(with_reducible first|exact HB.out|apply z2q|apply z3q|apply z4q)|exact HB.out)⟩
        ·rw [if_neg c26]at H
         have c26b0:(t464.toList==([70,65,76,83,69]:List UInt8))=false:=beq_eq_false_iff_ne.mpr c26
         have c26b1:(t464.toList !=([70,65,76,83,69]:List UInt8))=true:=bne_iff_ne.mpr c26
         replace H:=Option.bind_eq_some_iff.mp H
         obtain⟨t465,A280,H⟩:=H
         replace H:(if t465=true then(some false)else((impl_ReadRef.f k2 t464).bind fun bt466=>(some (!bt466.2.2.2.2))))=some r:=H
         have A28:=Aside0.mk A280
         clear A280
         by_cases c29:t465=true
         ·subst c29
          have H1:(some false)=some r:=by rw [if_pos rfl]at H;exact H
          clear H
          have H:=H1
          clear H1
          obtain rfl:=Option.some.inj H
          go_wp2_with (first|((with_reducible refine z8q (f:=41) rfl ?_);refine z17q (some 57) rfl rfl Tryz.func41 (by kernel_rfl) rfl #[.string a0] rfl (by(try simp only [map_toArray,map_cons,map_nil]);first|done|rfl|(simp only [length_drop,length_take];rfl)) ?_;(with_reducible refine(impl_capitals.calls a0 t464 _ A23.out).mono ?_);rintro e w30 ⟨rfl,hb⟩;refine⟨_,rfl,?_⟩;have n0_:=Aside0.mk (z5q (ibh HB.out) hb);clear HB;have HB:=n0_;clear n0_;(try clear hb);(try clear hb2);(try clear hk);(try clear hi))|(go_at_call 106;(with_reducible refine(impl_likeBy.calls k2 t464 true _ A28.out).mono ?_);rintro e w' ⟨rfl,⟨nd,rfl⟩⟩))
          go_ret
          exact⟨by first|rfl|(simp [errW_none,errW_some]<;>rfl)|(simp [*,errW_none,errW_some]<;>rfl),by repeat(first|(with_reducible first|exact HB.out|apply z2q|apply z3q|apply z4q)|exact HB.out)⟩
         ·replace c29:=Bool.eq_false_iff.mpr c29
          subst c29
          have H1:((impl_ReadRef.f k2 t464).bind fun bt466=>(some (!bt466.2.2.2.2)))=some r:=by rw [if_neg (show ¬ (false=true)by decide)]at H;exact H
          clear H
          have H:=H1
          clear H1
          replace H:=Option.bind_eq_some_iff.mp H
          obtain⟨⟨t466,t467,t468,t469,t470⟩,A310,H⟩:=H
          replace H:(some (!t470))=some r:=H
          have A31:=Aside0.mk A310
          clear A310
          obtain rfl:=Option.some.inj H
          go_wp2_with (first|((with_reducible refine z8q (f:=41) rfl ?_);refine z17q (some 57) rfl rfl Tryz.func41 (by kernel_rfl) rfl #[.string a0] rfl (by(try simp only [map_toArray,map_cons,map_nil]);first|done|rfl|(simp only [length_drop,length_take];rfl)) ?_;(with_reducible refine(impl_capitals.calls a0 t464 _ A23.out).mono ?_);rintro e w32 ⟨rfl,hb⟩;refine⟨_,rfl,?_⟩;have n0_:=Aside0.mk (z5q (ibh HB.out) hb);clear HB;have HB:=n0_;clear n0_;(try clear hb);(try clear hb2);(try clear hk);(try clear hi))|(go_at_call 106;(with_reducible refine(impl_likeBy.calls k2 t464 false _ A28.out).mono ?_);rintro e w' ⟨rfl,⟨nd,rfl⟩⟩;(try(rw [drewN_self w32];generalize hq_:World.drewN w32 _=w32;have n0_:Aside0 (Below w.heap.size w w32):=⟨by rw [←hq_];exact(ibh HB.out)⟩;clear HB hq_;have HB:=n0_;clear n0_)))|((with_reducible refine z8q (f:=107) rfl ?_);refine z17q (some 70) rfl rfl Tryz.func107 (by kernel_rfl) rfl #[.string t464] rfl (by(try simp only [map_toArray,map_cons,map_nil]);first|done|rfl|(simp only [length_drop,length_take];rfl)) ?_;(with_reducible refine(impl_ReadRef.calls k2 t464 t466 t467 t468 t469 t470 _ (hT.below ib) A31.out).mono ?_);rintro e w33 ⟨rfl,hb⟩;refine⟨_,rfl,?_⟩;have n0_:=Aside0.mk (z5q (ibh HB.out) hb);clear HB;have HB:=n0_;clear n0_;(try clear hb);(try clear hb2);(try clear hk);(try clear hi))|((with_reducible refine z15q (N:=5) rfl ?_);(try(refine gate_guard (by rfl) ?_;dsimp only));refine z13q ?hg (N:=5) ?hd (cs:=#[.int .i64 0,.int .i64 0,.bool false,.bool false]) (t:=47) ?hr ?_;(case hd=>rfl);(case hg=>rfl);(case hr=>first|(go_simp;done)|(go_simp;rfl));intro gb471 hg w34 hbox hb;have n0_:=Aside0.mk (z5q (ibh HB.out) hb);have n1_:=Aside0.mk (hbox);have n2_:=Aside0.mk ((by rw [hg];exact(z6q (ibh HB.out)):w.heap.size≤gb471));have n3_:=Aside0.mk ((by rw [hg];exact(z6q (ibh HB.out)):w.heap.size≤gb471));clear HB;have HB:=n0_;have BK471:=n1_;have GW471:=n2_;have GE471:=n3_;clear n0_ n1_ n2_ n3_;clear hb hbox hg;obtain⟨hcz35_0,hcz35_1,hcz35_2,hcz35_3,hfz35_0,hfz35_1,hfz35_2,hfz35_3⟩:=cr4 (w:=w34) (g:=gb471) BK471.out))
          go_ret
          exact⟨by first|rfl|(simp [errW_none,errW_some]<;>rfl)|(simp [*,errW_none,errW_some]<;>rfl),by repeat(first|(with_reducible first|exact HB.out|apply z2q|apply z3q|apply z4q|refine z7q ?_ GE471.out)|exact HB.out)⟩



/-! ### impl_isOp: function 99 -/

def impl_isOp.f (a0:ByteArray):Option (Bool):=if a0.toList=([94]:List UInt8)then(some true)else(if a0.toList=([42]:List UInt8)then(some true)else(if a0.toList=([47]:List UInt8)then(some true)else(if a0.toList=([43]:List UInt8)then(some true)else(if a0.toList=([45]:List UInt8)then(some true)else(if a0.toList=([38]:List UInt8)then(some true)else(if a0.toList=([61]:List UInt8)then(some true)else(if a0.toList=([60]:List UInt8)then(some true)else(if a0.toList=([62]:List UInt8)then(some true)else(if a0.toList=([60,61]:List UInt8)then(some true)else(if a0.toList=([62,61]:List UInt8)then(some true)else(if a0.toList=([60,62]:List UInt8)then(some true)else(some false))))))))))))

set_option maxHeartbeats 8000000 in
set_option maxRecDepth 100000 in
theorem impl_isOp.calls (a0:ByteArray) (r:Bool) (w:World) (h:impl_isOp.f a0=some r):
  Calls Tryz.prog 99 #[.string a0] w fun e w'=>e= .returned (.bool r)∧Drawn0 w w':=by
 have H:(if a0.toList=([94]:List UInt8)then(some true)else(if a0.toList=([42]:List UInt8)then(some true)else(if a0.toList=([47]:List UInt8)then(some true)else(if a0.toList=([43]:List UInt8)then(some true)else(if a0.toList=([45]:List UInt8)then(some true)else(if a0.toList=([38]:List UInt8)then(some true)else(if a0.toList=([61]:List UInt8)then(some true)else(if a0.toList=([60]:List UInt8)then(some true)else(if a0.toList=([62]:List UInt8)then(some true)else(if a0.toList=([60,61]:List UInt8)then(some true)else(if a0.toList=([62,61]:List UInt8)then(some true)else(if a0.toList=([60,62]:List UInt8)then(some true)else(some false)))))))))))))=some r:=h
 clear h
 by_cases c2:a0.toList=([94]:List UInt8)
 ·rw [if_pos c2]at H
  have c2b0:(a0.toList==([94]:List UInt8))=true:=beq_iff_eq.mpr c2
  have c2b1:(a0.toList !=([94]:List UInt8))=false:=bne_eq_false_iff_eq.mpr c2
  clear c2
  obtain rfl:=Option.some.inj H
  go_enter Tryz.func99,Tryz.ntmps99
  go_wp2
  go_ret
  exact⟨by first|rfl|(simp;done)|(simp [*];done),by repeat(first|exact Drawn0.refl _|apply Drawn0.step)⟩
 ·rw [if_neg c2]at H
  have c2b0:(a0.toList==([94]:List UInt8))=false:=beq_eq_false_iff_ne.mpr c2
  have c2b1:(a0.toList !=([94]:List UInt8))=true:=bne_iff_ne.mpr c2
  by_cases c3:a0.toList=([42]:List UInt8)
  ·rw [if_pos c3]at H
   have c3b0:(a0.toList==([42]:List UInt8))=true:=beq_iff_eq.mpr c3
   have c3b1:(a0.toList !=([42]:List UInt8))=false:=bne_eq_false_iff_eq.mpr c3
   clear c3
   obtain rfl:=Option.some.inj H
   go_enter Tryz.func99,Tryz.ntmps99
   go_wp2
   go_ret
   exact⟨by first|rfl|(simp;done)|(simp [*];done),by repeat(first|exact Drawn0.refl _|apply Drawn0.step)⟩
  ·rw [if_neg c3]at H
   have c3b0:(a0.toList==([42]:List UInt8))=false:=beq_eq_false_iff_ne.mpr c3
   have c3b1:(a0.toList !=([42]:List UInt8))=true:=bne_iff_ne.mpr c3
   by_cases c4:a0.toList=([47]:List UInt8)
   ·rw [if_pos c4]at H
    have c4b0:(a0.toList==([47]:List UInt8))=true:=beq_iff_eq.mpr c4
    have c4b1:(a0.toList !=([47]:List UInt8))=false:=bne_eq_false_iff_eq.mpr c4
    clear c4
    obtain rfl:=Option.some.inj H
    go_enter Tryz.func99,Tryz.ntmps99
    go_wp2
    go_ret
    exact⟨by first|rfl|(simp;done)|(simp [*];done),by repeat(first|exact Drawn0.refl _|apply Drawn0.step)⟩
   ·rw [if_neg c4]at H
    have c4b0:(a0.toList==([47]:List UInt8))=false:=beq_eq_false_iff_ne.mpr c4
    have c4b1:(a0.toList !=([47]:List UInt8))=true:=bne_iff_ne.mpr c4
    by_cases c5:a0.toList=([43]:List UInt8)
    ·rw [if_pos c5]at H
     have c5b0:(a0.toList==([43]:List UInt8))=true:=beq_iff_eq.mpr c5
     have c5b1:(a0.toList !=([43]:List UInt8))=false:=bne_eq_false_iff_eq.mpr c5
     clear c5
     obtain rfl:=Option.some.inj H
     go_enter Tryz.func99,Tryz.ntmps99
     go_wp2
     go_ret
     exact⟨by first|rfl|(simp;done)|(simp [*];done),by repeat(first|exact Drawn0.refl _|apply Drawn0.step)⟩
    ·rw [if_neg c5]at H
     have c5b0:(a0.toList==([43]:List UInt8))=false:=beq_eq_false_iff_ne.mpr c5
     have c5b1:(a0.toList !=([43]:List UInt8))=true:=bne_iff_ne.mpr c5
     by_cases c6:a0.toList=([45]:List UInt8)
     ·rw [if_pos c6]at H
      have c6b0:(a0.toList==([45]:List UInt8))=true:=beq_iff_eq.mpr c6
      have c6b1:(a0.toList !=([45]:List UInt8))=false:=bne_eq_false_iff_eq.mpr c6
      clear c6
      obtain rfl:=Option.some.inj H
      go_enter Tryz.func99,Tryz.ntmps99
      go_wp2
      go_ret
      exact⟨by first|rfl|(simp;done)|(simp [*];done),by repeat(first|exact Drawn0.refl _|apply Drawn0.step)⟩
     ·rw [if_neg c6]at H
      have c6b0:(a0.toList==([45]:List UInt8))=false:=beq_eq_false_iff_ne.mpr c6
      have c6b1:(a0.toList !=([45]:List UInt8))=true:=bne_iff_ne.mpr c6
      by_cases c7:a0.toList=([38]:List UInt8)
      ·rw [if_pos c7]at H
       have c7b0:(a0.toList==([38]:List UInt8))=true:=beq_iff_eq.mpr c7
       have c7b1:(a0.toList !=([38]:List UInt8))=false:=bne_eq_false_iff_eq.mpr c7
       clear c7
       obtain rfl:=Option.some.inj H
       go_enter Tryz.func99,Tryz.ntmps99
       go_wp2
       go_ret
       exact⟨by first|rfl|(simp;done)|(simp [*];done),by repeat(first|exact Drawn0.refl _|apply Drawn0.step)⟩
      ·rw [if_neg c7]at H
       have c7b0:(a0.toList==([38]:List UInt8))=false:=beq_eq_false_iff_ne.mpr c7
       have c7b1:(a0.toList !=([38]:List UInt8))=true:=bne_iff_ne.mpr c7
       by_cases c8:a0.toList=([61]:List UInt8)
       ·rw [if_pos c8]at H
        have c8b0:(a0.toList==([61]:List UInt8))=true:=beq_iff_eq.mpr c8
        have c8b1:(a0.toList !=([61]:List UInt8))=false:=bne_eq_false_iff_eq.mpr c8
        clear c8
        obtain rfl:=Option.some.inj H
        go_enter Tryz.func99,Tryz.ntmps99
        go_wp2
        go_ret
        exact⟨by first|rfl|(simp;done)|(simp [*];done),by repeat(first|exact Drawn0.refl _|apply Drawn0.step)⟩
       ·rw [if_neg c8]at H
        have c8b0:(a0.toList==([61]:List UInt8))=false:=beq_eq_false_iff_ne.mpr c8
        have c8b1:(a0.toList !=([61]:List UInt8))=true:=bne_iff_ne.mpr c8
        by_cases c9:a0.toList=([60]:List UInt8)
        ·rw [if_pos c9]at H
         have c9b0:(a0.toList==([60]:List UInt8))=true:=beq_iff_eq.mpr c9
         have c9b1:(a0.toList !=([60]:List UInt8))=false:=bne_eq_false_iff_eq.mpr c9
         clear c9
         obtain rfl:=Option.some.inj H
         go_enter Tryz.func99,Tryz.ntmps99
         go_wp2
         go_ret
         exact⟨by first|rfl|(simp;done)|(simp [*];done),by repeat(first|exact Drawn0.refl _|apply Drawn0.step)⟩
        ·rw [if_neg c9]at H
         have c9b0:(a0.toList==([60]:List UInt8))=false:=beq_eq_false_iff_ne.mpr c9
         have c9b1:(a0.toList !=([60]:List UInt8))=true:=bne_iff_ne.mpr c9
         by_cases c10:a0.toList=([62]:List UInt8)
         ·rw [if_pos c10]at H
          have c10b0:(a0.toList==([62]:List UInt8))=true:=beq_iff_eq.mpr c10
          have c10b1:(a0.toList !=([62]:List UInt8))=false:=bne_eq_false_iff_eq.mpr c10
          clear c10
          obtain rfl:=Option.some.inj H
          go_enter Tryz.func99,Tryz.ntmps99
          go_wp2
          go_ret
          exact⟨by first|rfl|(simp;done)|(simp [*];done),by repeat(first|exact Drawn0.refl _|apply Drawn0.step)⟩
         ·rw [if_neg c10]at H
          have c10b0:(a0.toList==([62]:List UInt8))=false:=beq_eq_false_iff_ne.mpr c10
          have c10b1:(a0.toList !=([62]:List UInt8))=true:=bne_iff_ne.mpr c10
          by_cases c11:a0.toList=([60,61]:List UInt8)
          ·rw [if_pos c11]at H
           have c11b0:(a0.toList==([60,61]:List UInt8))=true:=beq_iff_eq.mpr c11
           have c11b1:(a0.toList !=([60,61]:List UInt8))=false:=bne_eq_false_iff_eq.mpr c11
           clear c11
           obtain rfl:=Option.some.inj H
           go_enter Tryz.func99,Tryz.ntmps99
           go_wp2
           go_ret
           exact⟨by first|rfl|(simp;done)|(simp [*];done),by repeat(first|exact Drawn0.refl _|apply Drawn0.step)⟩
          ·rw [if_neg c11]at H
           have c11b0:(a0.toList==([60,61]:List UInt8))=false:=beq_eq_false_iff_ne.mpr c11
           have c11b1:(a0.toList !=([60,61]:List UInt8))=true:=bne_iff_ne.mpr c11
           by_cases c12:a0.toList=([62,61]:List UInt8)
           ·rw [if_pos c12]at H
            have c12b0:(a0.toList==([62,61]:List UInt8))=true:=beq_iff_eq.mpr c12
            have c12b1:(a0.toList !=([62,61]:List UInt8))=false:=bne_eq_false_iff_eq.mpr c12
            clear c12
            obtain rfl:=Option.some.inj H
            go_enter Tryz.func99,Tryz.ntmps99
            go_wp2
            go_ret
            exact⟨by first|rfl|(simp;done)|(simp [*];done),by repeat(first|exact Drawn0.refl _|apply Drawn0.step)⟩
           ·rw [if_neg c12]at H
            have c12b0:(a0.toList==([62,61]:List UInt8))=false:=beq_eq_false_iff_ne.mpr c12
            have c12b1:(a0.toList !=([62,61]:List UInt8))=true:=bne_iff_ne.mpr c12
            by_cases c13:a0.toList=([60,62]:List UInt8)
            ·rw [if_pos c13]at H
             have c13b0:(a0.toList==([60,62]:List UInt8))=true:=beq_iff_eq.mpr c13
             have c13b1:(a0.toList !=([60,62]:List UInt8))=false:=bne_eq_false_iff_eq.mpr c13
             clear c13
             obtain rfl:=Option.some.inj H
             go_enter Tryz.func99,Tryz.ntmps99
             go_wp2
             go_ret
             exact⟨by first|rfl|(simp;done)|(simp [*];done),by repeat(first|exact Drawn0.refl _|apply Drawn0.step)⟩
            ·rw [if_neg c13]at H
             have c13b0:(a0.toList==([60,62]:List UInt8))=false:=beq_eq_false_iff_ne.mpr c13
             have c13b1:(a0.toList !=([60,62]:List UInt8))=true:=bne_iff_ne.mpr c13
             obtain rfl:=Option.some.inj H
             go_enter Tryz.func99,Tryz.ntmps99
             go_wp2
             go_ret
             exact⟨by first|rfl|(simp;done)|(simp [*];done),by repeat(first|exact Drawn0.refl _|apply Drawn0.step)⟩



/-! ### impl_goodNode: function 74 -/
/- over impl_isGoodDec.f impl_plainText.f impl_isError.f impl_GoodRef.f impl_isName.f impl_isOp.f impl_capitals.f strconv_Atoi.f strconv_Itoa.f -/


def impl_goodNode.f (a0_0:Int) (a0_1:ByteArray) (a0_2:Bool) (a0_3:Int) (a0_4:Int) (a0_5:Int) (a0_6:Int) (a0_7:Bool) (a0_8:Bool) (a0_9:Int) (a0_10:Int) (a0_11:Bool) (a0_12:Bool) (a0_13:Int):Option (Bool):=
 if a0_1.size≤1048576 then
  (if a0_0=7∨a0_0=11 then impl_isName.f NK a0_1 else some false).bind fun nm=>
   some (nodeB nm ((atoiV a0_1).2.isNone && arB (atoiV a0_1).1 a0_1 a0_13) a0_0 a0_1 a0_2 a0_3 a0_4 a0_5 a0_6 a0_7 a0_8 a0_9 a0_10 a0_11 a0_12 a0_13)
 else none


theorem implGoodDec_is (n:Bool) (d e:Int):impl_isGoodDec.f n d e=some (goodDecB n d e):=by
 unfold impl_isGoodDec.f goodDecB
 by_cases h0:d=0
 ·subst h0
  cases n<;>by_cases he:e=0<;>simp [he]
 ·by_cases h1:1≤d<;>by_cases h2:d≤999999999999999<;>by_cases h3:Int.tmod d 10=0<;>by_cases h4:e≥ -300<;>by_cases h5:e≤300<;>simp [h0,h1,h2,h3,h4,h5]


theorem implGoodRef_is (r c:Int) (a b:Bool):impl_GoodRef.f r c a b=some (goodRefB r c):=by
 unfold impl_GoodRef.f impl_Ref_place.f impl_place_good.f goodRefB
 simp only [Option.bind_some]
 by_cases h1:1≤r<;>by_cases h2:r≤1000<;>by_cases h3:1≤c<;>by_cases h4:c≤200<;>simp [h1,h2,h3,h4]


theorem implPlain_is (s:ByteArray) (hs:s.size≤1048576) (m:Int) (k:Nat) (hk:s.size<k):impl_plainText.f k s m=some (printB s && decide ((s.size:Int)≤m)):=by
 unfold impl_plainText.f printB
 by_cases hm:(s.size:Int) > m
 ·rw [if_pos hm,decide_eq_false (by omega:¬ (s.size:Int)≤m)];simp
 ·rw [if_neg hm,decide_eq_true (by omega:(s.size:Int)≤m)]
  have h:=loop_bytes (F:=fun k i=>impl_plainText.l0 k s i) s (by omega) (fun c=>decide (32≤c∧c≤126)) true ?_ ?_ s.size k 0 (by omega) hk
  ·simpa using h
  ·intro k i h0 h1
   simp only [impl_plainText.l0]
   rw [if_pos h1,if_pos h0,wrap_id (x:=i+1) (by omega) (by omega)]
   by_cases c1:bt s i<32
   ·rw [if_pos c1,if_neg (by simp;omega)]
   ·by_cases c2:bt s i > 126
    ·rw [if_neg c1,if_pos c2,if_neg (by simp;omega)]
    ·rw [if_neg c1,if_neg c2,if_pos (by simp;omega)]
  ·intro k
   simp only [impl_plainText.l0]
   rw [if_neg (by omega)]


theorem implOp_is (t:ByteArray):impl_isOp.f t=some (opB t):=by
 unfold impl_isOp.f opB opL
 simp only [List.any_cons,List.any_nil,ByteArray.toList_eq]
 generalize t.data.toList=L
 by_cases h0:L= [94]
 ·subst h0;decide
 rw [if_neg h0]
 by_cases h1:L= [42]
 ·subst h1;decide
 rw [if_neg h1]
 by_cases h2:L= [47]
 ·subst h2;decide
 rw [if_neg h2]
 by_cases h3:L= [43]
 ·subst h3;decide
 rw [if_neg h3]
 by_cases h4:L= [45]
 ·subst h4;decide
 rw [if_neg h4]
 by_cases h5:L= [38]
 ·subst h5;decide
 rw [if_neg h5]
 by_cases h6:L= [61]
 ·subst h6;decide
 rw [if_neg h6]
 by_cases h7:L= [60]
 ·subst h7;decide
 rw [if_neg h7]
 by_cases h8:L= [62]
 ·subst h8;decide
 rw [if_neg h8]
 by_cases h9:L= [60,61]
 ·subst h9;decide
 rw [if_neg h9]
 by_cases h10:L= [62,61]
 ·subst h10;decide
 rw [if_neg h10]
 by_cases h11:L= [60,62]
 ·subst h11;decide
 rw [if_neg h11]
 have E:∀ a:List UInt8,¬ L=a→(a==L)=false:=fun a h=>by simpa using fun e=>h e.symm
 rw [show((⟨#[94]⟩:ByteArray).data.toList==L)=false from E _ h0,show((⟨#[42]⟩:ByteArray).data.toList==L)=false from E _ h1,show((⟨#[47]⟩:ByteArray).data.toList==L)=false from E _ h2,show((⟨#[43]⟩:ByteArray).data.toList==L)=false from E _ h3,show((⟨#[45]⟩:ByteArray).data.toList==L)=false from E _ h4,show((⟨#[38]⟩:ByteArray).data.toList==L)=false from E _ h5,show((⟨#[61]⟩:ByteArray).data.toList==L)=false from E _ h6,show((⟨#[60]⟩:ByteArray).data.toList==L)=false from E _ h7,show((⟨#[62]⟩:ByteArray).data.toList==L)=false from E _ h8,show((⟨#[60,61]⟩:ByteArray).data.toList==L)=false from E _ h9,show((⟨#[62,61]⟩:ByteArray).data.toList==L)=false from E _ h10,show((⟨#[60,62]⟩:ByteArray).data.toList==L)=false from E _ h11];rfl


theorem itoa_is (n:Int) (h1: -1000000000000000000<n) (h2:n<1000000000000000000):strconv_Itoa.f n=some (txt n):=by unfold strconv_Itoa.f;rw [if_pos ⟨by omega,by omega⟩];rfl


theorem eqANode (d:Nat) (w:World) (x0 y0:Int) (x1 y1:ByteArray) (x2 y2:Bool) (x3 y3 x4 y4 x5 y5 x6 y6:Int) (x7 y7 x8 y8:Bool) (x9 y9 x10 y10:Int) (x11 y11 x12 y12:Bool) (x13 y13:Int):
  (Op.equalIn (d+3) 67 (.agg #[.int .i64 x0,.string x1,.bool x2,.int .i64 x3,.int .i64 x4,.int .i64 x5,.int .i64 x6,.bool x7,.bool x8,.int .i64 x9,.int .i64 x10,.bool x11,.bool x12,.int .i64 x13]) (.agg #[.int .i64 y0,.string y1,.bool y2,.int .i64 y3,.int .i64 y4,.int .i64 y5,.int .i64 y6,.bool y7,.bool y8,.int .i64 y9,.int .i64 y10,.bool y11,.bool y12,.int .i64 y13])).run Tryz.prog w= .ok (x0==y0 && (x1.toList==y1.toList && ((x2==y2 && (x3==y3 && (x4==y4))) && ((x5==y5 && (x6==y6 && (x7==y7 && (x8==y8)))) && ((x9==y9 && (x10==y10 && (x11==y11 && (x12==y12)))) && (x13==y13)))))) w:=by
 refine eqA_of Tryz.underlying67 (by kernel_rfl) ?_
 refine eqf_cons (by rfl) (by go_simp;rfl) (by go_simp;rfl) (by go_simp) ?_
 refine eqf_cons (by rfl) (by go_simp;rfl) (by go_simp;rfl) (by go_simp) ?_
 refine eqf_cons (by rfl) (by first|(go_simp;done)|(go_simp;rfl)) (by first|(go_simp;done)|(go_simp;rfl)) (eqA65 _ _ _ _ _ _ _ _) ?_
 refine eqf_cons (by rfl) (by first|(go_simp;done)|(go_simp;rfl)) (by first|(go_simp;done)|(go_simp;rfl)) (eqA47 _ _ _ _ _ _ _ _ _ _) ?_
 refine eqf_cons (by rfl) (by first|(go_simp;done)|(go_simp;rfl)) (by first|(go_simp;done)|(go_simp;rfl)) (eqA47 _ _ _ _ _ _ _ _ _ _) ?_
 exact eqf_last (by rfl) (by go_simp;rfl) (by go_simp;rfl) (by go_simp)

attribute [local go_sem high] eqANode

set_option maxHeartbeats 16000000 in
set_option maxRecDepth 100000 in
theorem gn_1 (k:Int) (t:ByteArray) (n:Bool) (d x r c:Int) (p q:Bool) (r2 c2:Int) (p2 q2:Bool) (m:Int) (w:World) (hT:Tab w) (nm:Bool) (R:Bool) (hR:nodeB nm ((atoiV t).2.isNone && arB (atoiV t).1 t m) k t n d x r c p q r2 c2 p2 q2 m=R) (hN:k=7∨k=11→impl_isName.f NK t=some nm) (ht:t.size≤1048576) (hk:k=1):
  Calls Tryz.prog 74 #[.agg #[.int .i64 k,.string t,.bool n,.int .i64 d,.int .i64 x,.int .i64 r,.int .i64 c,.bool p,.bool q,.int .i64 r2,.int .i64 c2,.bool p2,.bool q2,.int .i64 m]] w fun e w'=>e= .returned (.bool R)∧Below w.heap.size w w':=by
 have HR:=Lib.hid hR;clear hR
 have HN:=Lib.hid hN;have HT:=Lib.hid hT;have HZ:=Lib.hid ht;clear hN hT ht
 subst hk
 go_enter Tryz.func74,Tryz.ntmps74
 go_upto_region 4 with fail
 by_cases hm:(m==0)=true
 ·skip
  have HG:=Lib.hid (implGoodDec_is n d x)
  by_cases hg:goodDecB n d x=true
  ·skip
   have HGG:=Lib.hid hg
   by_cases hn:n=true
   ·skip
    subst hn
    obtain rfl:R=false:=by rw [←HR.out];simp only [nodeB_1,hm,Bool.and_false,Bool.false_and,Bool.true_and,Bool.and_true,Bool.not_true,Bool.not_false,Bool.or_true,Bool.true_or,Bool.false_or,Bool.or_false];try rfl
    clear hg
    go_wp2_with fail
    refine(impl_isGoodDec.calls _ _ _ _ _ HG.out).mono ?_;rintro e w2 ⟨rfl,hb⟩
    obtain⟨hc2,hf2⟩:=bcell hb
    have HB2:=Lib.hid (z5q (z2q (z2q (Below.refl w.heap.size w) _) _) hb)
    have hsz2:w.heap.size+1<w2.heap.size:=by have h_:=hb.size;simp at h_;omega
    have hsy2:w.heap.size<w2.heap.size:=by omega
    clear hb
    rw [HGG.out]
    go_wp2_with fail
    go_ret
    exact⟨by first|rfl|(simp;done),by repeat(first|assumption|exact Below.refl _ _|exact HB2.out|exact HB3.out|apply z2q|apply z4q|apply z3q)⟩
   ·replace hn:=Bool.eq_false_iff.mpr hn
    subst hn
    obtain rfl:R=((t.toList==([]:List UInt8)) && ((r==0 && (c==0 && (!p && !q))) && (r2==0 && (c2==0 && (!p2 && !q2))))):=by rw [←HR.out];simp only [nodeB_1,hm,hg,Bool.and_false,Bool.false_and,Bool.true_and,Bool.and_true,Bool.not_true,Bool.not_false,Bool.or_true,Bool.true_or,Bool.false_or,Bool.or_false];try rfl
    clear hg
    go_wp2_with fail
    refine(impl_isGoodDec.calls _ _ _ _ _ HG.out).mono ?_;rintro e w2 ⟨rfl,hb⟩
    obtain⟨hc2,hf2⟩:=bcell hb
    have HB2:=Lib.hid (z5q (z2q (z2q (Below.refl w.heap.size w) _) _) hb)
    have hsz2:w.heap.size+1<w2.heap.size:=by have h_:=hb.size;simp at h_;omega
    have hsy2:w.heap.size<w2.heap.size:=by omega
    clear hb
    rw [HGG.out]
    go_wp2_with fail
    go_ret
    exact⟨by first|rfl|(simp;done),by repeat(first|assumption|exact Below.refl _ _|exact HB2.out|exact HB3.out|apply z2q|apply z4q|apply z3q)⟩
  ·replace hg:=Bool.eq_false_iff.mpr hg
   obtain rfl:R=false:=by rw [←HR.out];simp only [nodeB_1,hm,hg,Bool.and_false,Bool.false_and,Bool.true_and,Bool.and_true,Bool.not_true,Bool.not_false,Bool.or_true,Bool.true_or,Bool.false_or,Bool.or_false];try rfl
   have HGG:=Lib.hid hg;clear hg
   go_wp2_with fail
   refine(impl_isGoodDec.calls _ _ _ _ _ HG.out).mono ?_;rintro e w2 ⟨rfl,hb⟩
   obtain⟨hc2,hf2⟩:=bcell hb
   have HB2:=Lib.hid (z5q (z2q (z2q (Below.refl w.heap.size w) _) _) hb)
   have hsz2:w.heap.size+1<w2.heap.size:=by have h_:=hb.size;simp at h_;omega
   have hsy2:w.heap.size<w2.heap.size:=by omega
   clear hb
   rw [HGG.out]
   go_wp2_with fail
   go_ret
   exact⟨by first|rfl|(simp;done),by repeat(first|assumption|exact Below.refl _ _|exact HB2.out|exact HB3.out|apply z2q|apply z4q|apply z3q)⟩
 ·replace hm:=Bool.eq_false_iff.mpr hm
  obtain rfl:R=false:=by rw [←HR.out];simp only [nodeB_1,hm,Bool.and_false,Bool.false_and,Bool.true_and,Bool.and_true,Bool.not_true,Bool.not_false,Bool.or_true,Bool.true_or,Bool.false_or,Bool.or_false];try rfl
  go_wp2_with fail
  go_ret
  exact⟨by first|rfl|(simp;done),by repeat(first|assumption|exact Below.refl _ _|exact HB2.out|exact HB3.out|apply z2q|apply z4q|apply z3q)⟩

set_option maxHeartbeats 16000000 in
set_option maxRecDepth 100000 in
theorem gn_2 (k:Int) (t:ByteArray) (n:Bool) (d x r c:Int) (p q:Bool) (r2 c2:Int) (p2 q2:Bool) (m:Int) (w:World) (hT:Tab w) (nm:Bool) (R:Bool) (hR:nodeB nm ((atoiV t).2.isNone && arB (atoiV t).1 t m) k t n d x r c p q r2 c2 p2 q2 m=R) (hN:k=7∨k=11→impl_isName.f NK t=some nm) (ht:t.size≤1048576) (hk:k=2):
  Calls Tryz.prog 74 #[.agg #[.int .i64 k,.string t,.bool n,.int .i64 d,.int .i64 x,.int .i64 r,.int .i64 c,.bool p,.bool q,.int .i64 r2,.int .i64 c2,.bool p2,.bool q2,.int .i64 m]] w fun e w'=>e= .returned (.bool R)∧Below w.heap.size w w':=by
 have HR:=Lib.hid hR;clear hR
 have HN:=Lib.hid hN;have HT:=Lib.hid hT;have HZ:=Lib.hid ht;clear hN hT ht
 subst hk
 go_enter Tryz.func74,Tryz.ntmps74
 go_upto_region 4 with fail
 by_cases hm:(m==0)=true
 ·skip
  have HG:=Lib.hid (implPlain_is t HZ.out 200 NK (by unfold NK;have:=HZ.out;omega))
  by_cases hg:(printB t && decide ((t.size:Int)≤200))=true
  ·skip
   obtain rfl:R=((!n && (d==0 && x==0)) && ((r==0 && (c==0 && (!p && !q))) && (r2==0 && (c2==0 && (!p2 && !q2))))):=by rw [←HR.out];simp only [nodeB_2,hm,hg,Bool.and_false,Bool.false_and,Bool.true_and,Bool.and_true,Bool.not_true,Bool.not_false,Bool.or_true,Bool.true_or,Bool.false_or,Bool.or_false];try rfl
   have HGG:=Lib.hid hg;clear hg
   go_wp2_with fail
   refine(impl_plainText.calls _ _ _ _ _ HG.out).mono ?_;rintro e w2 ⟨rfl,hb⟩
   obtain⟨hc2,hf2⟩:=bcell (Drawn0.below hb)
   have HB2:=Lib.hid (z5q (z2q (z2q (Below.refl w.heap.size w) _) _) (Drawn0.below hb))
   have hsz2:w.heap.size+1<w2.heap.size:=by have h_:=(Drawn0.below hb).size;simp at h_;omega
   have hsy2:w.heap.size<w2.heap.size:=by omega
   clear hb
   rw [HGG.out]
   go_wp2_with fail
   go_ret
   exact⟨by first|rfl|(simp;done),by repeat(first|assumption|exact Below.refl _ _|exact HB2.out|exact HB3.out|apply z2q|apply z4q|apply z3q)⟩
  ·replace hg:=Bool.eq_false_iff.mpr hg
   obtain rfl:R=false:=by rw [←HR.out];simp only [nodeB_2,hm,hg,Bool.and_false,Bool.false_and,Bool.true_and,Bool.and_true,Bool.not_true,Bool.not_false,Bool.or_true,Bool.true_or,Bool.false_or,Bool.or_false];try rfl
   have HGG:=Lib.hid hg;clear hg
   go_wp2_with fail
   refine(impl_plainText.calls _ _ _ _ _ HG.out).mono ?_;rintro e w2 ⟨rfl,hb⟩
   obtain⟨hc2,hf2⟩:=bcell (Drawn0.below hb)
   have HB2:=Lib.hid (z5q (z2q (z2q (Below.refl w.heap.size w) _) _) (Drawn0.below hb))
   have hsz2:w.heap.size+1<w2.heap.size:=by have h_:=(Drawn0.below hb).size;simp at h_;omega
   have hsy2:w.heap.size<w2.heap.size:=by omega
   clear hb
   rw [HGG.out]
   go_wp2_with fail
   go_ret
   exact⟨by first|rfl|(simp;done),by repeat(first|assumption|exact Below.refl _ _|exact HB2.out|exact HB3.out|apply z2q|apply z4q|apply z3q)⟩
 ·replace hm:=Bool.eq_false_iff.mpr hm
  obtain rfl:R=false:=by rw [←HR.out];simp only [nodeB_2,hm,Bool.and_false,Bool.false_and,Bool.true_and,Bool.and_true,Bool.not_true,Bool.not_false,Bool.or_true,Bool.true_or,Bool.false_or,Bool.or_false];try rfl
  go_wp2_with fail
  go_ret
  exact⟨by first|rfl|(simp;done),by repeat(first|assumption|exact Below.refl _ _|exact HB2.out|exact HB3.out|apply z2q|apply z4q|apply z3q)⟩

set_option maxHeartbeats 16000000 in
set_option maxRecDepth 100000 in
theorem gn_3 (k:Int) (t:ByteArray) (n:Bool) (d x r c:Int) (p q:Bool) (r2 c2:Int) (p2 q2:Bool) (m:Int) (w:World) (hT:Tab w) (nm:Bool) (R:Bool) (hR:nodeB nm ((atoiV t).2.isNone && arB (atoiV t).1 t m) k t n d x r c p q r2 c2 p2 q2 m=R) (hN:k=7∨k=11→impl_isName.f NK t=some nm) (ht:t.size≤1048576) (hk:k=3):
  Calls Tryz.prog 74 #[.agg #[.int .i64 k,.string t,.bool n,.int .i64 d,.int .i64 x,.int .i64 r,.int .i64 c,.bool p,.bool q,.int .i64 r2,.int .i64 c2,.bool p2,.bool q2,.int .i64 m]] w fun e w'=>e= .returned (.bool R)∧Below w.heap.size w w':=by
 have HR:=Lib.hid hR;clear hR
 have HN:=Lib.hid hN;have HT:=Lib.hid hT;have HZ:=Lib.hid ht;clear hN hT ht
 subst hk
 go_enter Tryz.func74,Tryz.ntmps74
 go_upto_region 4 with fail
 by_cases hm:(m==0)=true
 ·skip
  by_cases he:(t.toList==([84,82,85,69]:List UInt8))=true
  ·skip
   obtain rfl:R=((!n && (d==0 && x==0)) && ((r==0 && (c==0 && (!p && !q))) && (r2==0 && (c2==0 && (!p2 && !q2))))):=by rw [←HR.out];simp only [nodeB_3,hm,he,Bool.and_false,Bool.false_and,Bool.true_and,Bool.and_true,Bool.not_true,Bool.not_false,Bool.or_true,Bool.true_or,Bool.false_or,Bool.or_false];try rfl
   go_wp2_with fail
   go_ret
   exact⟨by first|rfl|(simp;done),by repeat(first|assumption|exact Below.refl _ _|exact HB2.out|exact HB3.out|apply z2q|apply z4q|apply z3q)⟩
  ·replace he:=Bool.eq_false_iff.mpr he
   by_cases hf:(t.toList==([70,65,76,83,69]:List UInt8))=true
   ·skip
    obtain rfl:R=((!n && (d==0 && x==0)) && ((r==0 && (c==0 && (!p && !q))) && (r2==0 && (c2==0 && (!p2 && !q2))))):=by rw [←HR.out];simp only [nodeB_3,hm,he,hf,Bool.and_false,Bool.false_and,Bool.true_and,Bool.and_true,Bool.not_true,Bool.not_false,Bool.or_true,Bool.true_or,Bool.false_or,Bool.or_false];try rfl
    go_wp2_with fail
    go_ret
    exact⟨by first|rfl|(simp;done),by repeat(first|assumption|exact Below.refl _ _|exact HB2.out|exact HB3.out|apply z2q|apply z4q|apply z3q)⟩
   ·replace hf:=Bool.eq_false_iff.mpr hf
    obtain rfl:R=false:=by rw [←HR.out];simp only [nodeB_3,hm,he,hf,Bool.and_false,Bool.false_and,Bool.true_and,Bool.and_true,Bool.not_true,Bool.not_false,Bool.or_true,Bool.true_or,Bool.false_or,Bool.or_false];try rfl
    go_wp2_with fail
    go_ret
    exact⟨by first|rfl|(simp;done),by repeat(first|assumption|exact Below.refl _ _|exact HB2.out|exact HB3.out|apply z2q|apply z4q|apply z3q)⟩
 ·replace hm:=Bool.eq_false_iff.mpr hm
  obtain rfl:R=false:=by rw [←HR.out];simp only [nodeB_3,hm,Bool.and_false,Bool.false_and,Bool.true_and,Bool.and_true,Bool.not_true,Bool.not_false,Bool.or_true,Bool.true_or,Bool.false_or,Bool.or_false];try rfl
  go_wp2_with fail
  go_ret
  exact⟨by first|rfl|(simp;done),by repeat(first|assumption|exact Below.refl _ _|exact HB2.out|exact HB3.out|apply z2q|apply z4q|apply z3q)⟩

set_option maxHeartbeats 16000000 in
set_option maxRecDepth 100000 in
theorem gn_4 (k:Int) (t:ByteArray) (n:Bool) (d x r c:Int) (p q:Bool) (r2 c2:Int) (p2 q2:Bool) (m:Int) (w:World) (hT:Tab w) (nm:Bool) (R:Bool) (hR:nodeB nm ((atoiV t).2.isNone && arB (atoiV t).1 t m) k t n d x r c p q r2 c2 p2 q2 m=R) (hN:k=7∨k=11→impl_isName.f NK t=some nm) (ht:t.size≤1048576) (hk:k=4):
  Calls Tryz.prog 74 #[.agg #[.int .i64 k,.string t,.bool n,.int .i64 d,.int .i64 x,.int .i64 r,.int .i64 c,.bool p,.bool q,.int .i64 r2,.int .i64 c2,.bool p2,.bool q2,.int .i64 m]] w fun e w'=>e= .returned (.bool R)∧Below w.heap.size w w':=by
 have HR:=Lib.hid hR;clear hR
 have HN:=Lib.hid hN;have HT:=Lib.hid hT;have HZ:=Lib.hid ht;clear hN hT ht
 subst hk
 go_enter Tryz.func74,Tryz.ntmps74
 go_upto_region 4 with fail
 by_cases hm:(m==0)=true
 ·skip
  have HG:=Lib.hid (show impl_isError.f t=some (erB t)from rfl)
  by_cases hg:erB t=true
  ·skip
   obtain rfl:R=((!n && (d==0 && x==0)) && ((r==0 && (c==0 && (!p && !q))) && (r2==0 && (c2==0 && (!p2 && !q2))))):=by rw [←HR.out];simp only [nodeB_4,hm,hg,Bool.and_false,Bool.false_and,Bool.true_and,Bool.and_true,Bool.not_true,Bool.not_false,Bool.or_true,Bool.true_or,Bool.false_or,Bool.or_false];try rfl
   have HGG:=Lib.hid hg;clear hg
   go_wp2_with fail
   refine(impl_isError.calls _ _ _ (HT.out.below (z2q (z2q (Below.refl w.heap.size w) _) _)) HG.out).mono ?_;rintro e w2 ⟨rfl,hb⟩
   obtain⟨hc2,hf2⟩:=bcell (Drawn0.below hb)
   have HB2:=Lib.hid (z5q (z2q (z2q (Below.refl w.heap.size w) _) _) (Drawn0.below hb))
   have hsz2:w.heap.size+1<w2.heap.size:=by have h_:=(Drawn0.below hb).size;simp at h_;omega
   have hsy2:w.heap.size<w2.heap.size:=by omega
   clear hb
   rw [HGG.out]
   go_wp2_with fail
   go_ret
   exact⟨by first|rfl|(simp;done),by repeat(first|assumption|exact Below.refl _ _|exact HB2.out|exact HB3.out|apply z2q|apply z4q|apply z3q)⟩
  ·replace hg:=Bool.eq_false_iff.mpr hg
   obtain rfl:R=false:=by rw [←HR.out];simp only [nodeB_4,hm,hg,Bool.and_false,Bool.false_and,Bool.true_and,Bool.and_true,Bool.not_true,Bool.not_false,Bool.or_true,Bool.true_or,Bool.false_or,Bool.or_false];try rfl
   have HGG:=Lib.hid hg;clear hg
   go_wp2_with fail
   refine(impl_isError.calls _ _ _ (HT.out.below (z2q (z2q (Below.refl w.heap.size w) _) _)) HG.out).mono ?_;rintro e w2 ⟨rfl,hb⟩
   obtain⟨hc2,hf2⟩:=bcell (Drawn0.below hb)
   have HB2:=Lib.hid (z5q (z2q (z2q (Below.refl w.heap.size w) _) _) (Drawn0.below hb))
   have hsz2:w.heap.size+1<w2.heap.size:=by have h_:=(Drawn0.below hb).size;simp at h_;omega
   have hsy2:w.heap.size<w2.heap.size:=by omega
   clear hb
   rw [HGG.out]
   go_wp2_with fail
   go_ret
   exact⟨by first|rfl|(simp;done),by repeat(first|assumption|exact Below.refl _ _|exact HB2.out|exact HB3.out|apply z2q|apply z4q|apply z3q)⟩
 ·replace hm:=Bool.eq_false_iff.mpr hm
  obtain rfl:R=false:=by rw [←HR.out];simp only [nodeB_4,hm,Bool.and_false,Bool.false_and,Bool.true_and,Bool.and_true,Bool.not_true,Bool.not_false,Bool.or_true,Bool.true_or,Bool.false_or,Bool.or_false];try rfl
  go_wp2_with fail
  go_ret
  exact⟨by first|rfl|(simp;done),by repeat(first|assumption|exact Below.refl _ _|exact HB2.out|exact HB3.out|apply z2q|apply z4q|apply z3q)⟩

set_option maxHeartbeats 16000000 in
set_option maxRecDepth 100000 in
theorem gn_5 (k:Int) (t:ByteArray) (n:Bool) (d x r c:Int) (p q:Bool) (r2 c2:Int) (p2 q2:Bool) (m:Int) (w:World) (hT:Tab w) (nm:Bool) (R:Bool) (hR:nodeB nm ((atoiV t).2.isNone && arB (atoiV t).1 t m) k t n d x r c p q r2 c2 p2 q2 m=R) (hN:k=7∨k=11→impl_isName.f NK t=some nm) (ht:t.size≤1048576) (hk:k=5):
  Calls Tryz.prog 74 #[.agg #[.int .i64 k,.string t,.bool n,.int .i64 d,.int .i64 x,.int .i64 r,.int .i64 c,.bool p,.bool q,.int .i64 r2,.int .i64 c2,.bool p2,.bool q2,.int .i64 m]] w fun e w'=>e= .returned (.bool R)∧Below w.heap.size w w':=by
 have HR:=Lib.hid hR;clear hR
 have HN:=Lib.hid hN;have HT:=Lib.hid hT;have HZ:=Lib.hid ht;clear hN hT ht
 subst hk
 go_enter Tryz.func74,Tryz.ntmps74
 go_upto_region 4 with fail
 by_cases hm:(m==0)=true
 ·skip
  have HG:=Lib.hid (implGoodRef_is r c p q)
  by_cases hg:goodRefB r c=true
  ·skip
   obtain rfl:R=((t.toList==([]:List UInt8)) && ((!n && (d==0 && x==0)) && (r2==0 && (c2==0 && (!p2 && !q2))))):=by rw [←HR.out];simp only [nodeB_5,hm,hg,Bool.and_false,Bool.false_and,Bool.true_and,Bool.and_true,Bool.not_true,Bool.not_false,Bool.or_true,Bool.true_or,Bool.false_or,Bool.or_false];try rfl
   have HGG:=Lib.hid hg;clear hg
   go_wp2_with fail
   refine(impl_GoodRef.calls _ _ _ _ _ _ HG.out).mono ?_;rintro e w2 ⟨rfl,hb⟩
   obtain⟨hc2,hf2⟩:=bcell hb
   have HB2:=Lib.hid (z5q (z2q (z2q (Below.refl w.heap.size w) _) _) hb)
   have hsz2:w.heap.size+1<w2.heap.size:=by have h_:=hb.size;simp at h_;omega
   have hsy2:w.heap.size<w2.heap.size:=by omega
   clear hb
   rw [HGG.out]
   go_wp2_with fail
   go_ret
   exact⟨by first|rfl|(simp;done),by repeat(first|assumption|exact Below.refl _ _|exact HB2.out|exact HB3.out|apply z2q|apply z4q|apply z3q)⟩
  ·replace hg:=Bool.eq_false_iff.mpr hg
   obtain rfl:R=false:=by rw [←HR.out];simp only [nodeB_5,hm,hg,Bool.and_false,Bool.false_and,Bool.true_and,Bool.and_true,Bool.not_true,Bool.not_false,Bool.or_true,Bool.true_or,Bool.false_or,Bool.or_false];try rfl
   have HGG:=Lib.hid hg;clear hg
   go_wp2_with fail
   refine(impl_GoodRef.calls _ _ _ _ _ _ HG.out).mono ?_;rintro e w2 ⟨rfl,hb⟩
   obtain⟨hc2,hf2⟩:=bcell hb
   have HB2:=Lib.hid (z5q (z2q (z2q (Below.refl w.heap.size w) _) _) hb)
   have hsz2:w.heap.size+1<w2.heap.size:=by have h_:=hb.size;simp at h_;omega
   have hsy2:w.heap.size<w2.heap.size:=by omega
   clear hb
   rw [HGG.out]
   go_wp2_with fail
   go_ret
   exact⟨by first|rfl|(simp;done),by repeat(first|assumption|exact Below.refl _ _|exact HB2.out|exact HB3.out|apply z2q|apply z4q|apply z3q)⟩
 ·replace hm:=Bool.eq_false_iff.mpr hm
  obtain rfl:R=false:=by rw [←HR.out];simp only [nodeB_5,hm,Bool.and_false,Bool.false_and,Bool.true_and,Bool.and_true,Bool.not_true,Bool.not_false,Bool.or_true,Bool.true_or,Bool.false_or,Bool.or_false];try rfl
  go_wp2_with fail
  go_ret
  exact⟨by first|rfl|(simp;done),by repeat(first|assumption|exact Below.refl _ _|exact HB2.out|exact HB3.out|apply z2q|apply z4q|apply z3q)⟩

set_option maxHeartbeats 16000000 in
set_option maxRecDepth 100000 in
theorem gn_6 (k:Int) (t:ByteArray) (n:Bool) (d x r c:Int) (p q:Bool) (r2 c2:Int) (p2 q2:Bool) (m:Int) (w:World) (hT:Tab w) (nm:Bool) (R:Bool) (hR:nodeB nm ((atoiV t).2.isNone && arB (atoiV t).1 t m) k t n d x r c p q r2 c2 p2 q2 m=R) (hN:k=7∨k=11→impl_isName.f NK t=some nm) (ht:t.size≤1048576) (hk:k=6):
  Calls Tryz.prog 74 #[.agg #[.int .i64 k,.string t,.bool n,.int .i64 d,.int .i64 x,.int .i64 r,.int .i64 c,.bool p,.bool q,.int .i64 r2,.int .i64 c2,.bool p2,.bool q2,.int .i64 m]] w fun e w'=>e= .returned (.bool R)∧Below w.heap.size w w':=by
 have HR:=Lib.hid hR;clear hR
 have HN:=Lib.hid hN;have HT:=Lib.hid hT;have HZ:=Lib.hid ht;clear hN hT ht
 subst hk
 go_enter Tryz.func74,Tryz.ntmps74
 go_upto_region 4 with fail
 by_cases hm:(m==0)=true
 ·skip
  have HG:=Lib.hid (implGoodRef_is r c p q)
  have HG3:=Lib.hid (implGoodRef_is r2 c2 p2 q2)
  by_cases hg:goodRefB r c=true
  ·skip
   by_cases hh:goodRefB r2 c2=true
   ·skip
    obtain rfl:R=((t.toList==([]:List UInt8)) && (!n && (d==0 && x==0))):=by rw [←HR.out];simp only [nodeB_6,hm,hg,hh,Bool.and_false,Bool.false_and,Bool.true_and,Bool.and_true,Bool.not_true,Bool.not_false,Bool.or_true,Bool.true_or,Bool.false_or,Bool.or_false];try rfl
    have HGG:=Lib.hid hg;have HH:=Lib.hid hh;clear hg hh
    go_wp2_with fail
    refine(impl_GoodRef.calls _ _ _ _ _ _ HG.out).mono ?_;rintro e w2 ⟨rfl,hb⟩
    obtain⟨hc2,hf2⟩:=bcell hb
    have HB2:=Lib.hid (z5q (z2q (z2q (Below.refl w.heap.size w) _) _) hb)
    have hsz2:w.heap.size+1<w2.heap.size:=by have h_:=hb.size;simp at h_;omega
    have hsy2:w.heap.size<w2.heap.size:=by omega
    clear hb
    rw [HGG.out]
    go_wp2_with fail
    refine(impl_GoodRef.calls _ _ _ _ _ _ HG3.out).mono ?_;rintro e w3 ⟨rfl,hb⟩
    obtain⟨hc3,hf3⟩:=bcell hb
    have HB3:=Lib.hid (z5q HB2.out hb)
    have hsz3:w.heap.size+1<w3.heap.size:=by have h_:=hb.size;omega
    have hsy3:w.heap.size<w3.heap.size:=by omega
    clear hb
    rw [HH.out]
    go_wp2_with fail
    go_ret
    exact⟨by first|rfl|(simp;done),by repeat(first|assumption|exact Below.refl _ _|exact HB2.out|exact HB3.out|apply z2q|apply z4q|apply z3q)⟩
   ·replace hh:=Bool.eq_false_iff.mpr hh
    obtain rfl:R=false:=by rw [←HR.out];simp only [nodeB_6,hm,hg,hh,Bool.and_false,Bool.false_and,Bool.true_and,Bool.and_true,Bool.not_true,Bool.not_false,Bool.or_true,Bool.true_or,Bool.false_or,Bool.or_false];try rfl
    have HGG:=Lib.hid hg;have HH:=Lib.hid hh;clear hg hh
    go_wp2_with fail
    refine(impl_GoodRef.calls _ _ _ _ _ _ HG.out).mono ?_;rintro e w2 ⟨rfl,hb⟩
    obtain⟨hc2,hf2⟩:=bcell hb
    have HB2:=Lib.hid (z5q (z2q (z2q (Below.refl w.heap.size w) _) _) hb)
    have hsz2:w.heap.size+1<w2.heap.size:=by have h_:=hb.size;simp at h_;omega
    have hsy2:w.heap.size<w2.heap.size:=by omega
    clear hb
    rw [HGG.out]
    go_wp2_with fail
    refine(impl_GoodRef.calls _ _ _ _ _ _ HG3.out).mono ?_;rintro e w3 ⟨rfl,hb⟩
    obtain⟨hc3,hf3⟩:=bcell hb
    have HB3:=Lib.hid (z5q HB2.out hb)
    have hsz3:w.heap.size+1<w3.heap.size:=by have h_:=hb.size;omega
    have hsy3:w.heap.size<w3.heap.size:=by omega
    clear hb
    rw [HH.out]
    go_wp2_with fail
    go_ret
    exact⟨by first|rfl|(simp;done),by repeat(first|assumption|exact Below.refl _ _|exact HB2.out|exact HB3.out|apply z2q|apply z4q|apply z3q)⟩
  ·replace hg:=Bool.eq_false_iff.mpr hg
   obtain rfl:R=false:=by rw [←HR.out];simp only [nodeB_6,hm,hg,Bool.and_false,Bool.false_and,Bool.true_and,Bool.and_true,Bool.not_true,Bool.not_false,Bool.or_true,Bool.true_or,Bool.false_or,Bool.or_false];try rfl
   have HGG:=Lib.hid hg;clear hg
   go_wp2_with fail
   refine(impl_GoodRef.calls _ _ _ _ _ _ HG.out).mono ?_;rintro e w2 ⟨rfl,hb⟩
   obtain⟨hc2,hf2⟩:=bcell hb
   have HB2:=Lib.hid (z5q (z2q (z2q (Below.refl w.heap.size w) _) _) hb)
   have hsz2:w.heap.size+1<w2.heap.size:=by have h_:=hb.size;simp at h_;omega
   have hsy2:w.heap.size<w2.heap.size:=by omega
   clear hb
   rw [HGG.out]
   go_wp2_with fail
   go_ret
   exact⟨by first|rfl|(simp;done),by repeat(first|assumption|exact Below.refl _ _|exact HB2.out|exact HB3.out|apply z2q|apply z4q|apply z3q)⟩
 ·replace hm:=Bool.eq_false_iff.mpr hm
  obtain rfl:R=false:=by rw [←HR.out];simp only [nodeB_6,hm,Bool.and_false,Bool.false_and,Bool.true_and,Bool.and_true,Bool.not_true,Bool.not_false,Bool.or_true,Bool.true_or,Bool.false_or,Bool.or_false];try rfl
  go_wp2_with fail
  go_ret
  exact⟨by first|rfl|(simp;done),by repeat(first|assumption|exact Below.refl _ _|exact HB2.out|exact HB3.out|apply z2q|apply z4q|apply z3q)⟩

set_option maxHeartbeats 16000000 in
set_option maxRecDepth 100000 in
theorem gn_7 (k:Int) (t:ByteArray) (n:Bool) (d x r c:Int) (p q:Bool) (r2 c2:Int) (p2 q2:Bool) (m:Int) (w:World) (hT:Tab w) (nm:Bool) (R:Bool) (hR:nodeB nm ((atoiV t).2.isNone && arB (atoiV t).1 t m) k t n d x r c p q r2 c2 p2 q2 m=R) (hN:k=7∨k=11→impl_isName.f NK t=some nm) (ht:t.size≤1048576) (hk:k=7):
  Calls Tryz.prog 74 #[.agg #[.int .i64 k,.string t,.bool n,.int .i64 d,.int .i64 x,.int .i64 r,.int .i64 c,.bool p,.bool q,.int .i64 r2,.int .i64 c2,.bool p2,.bool q2,.int .i64 m]] w fun e w'=>e= .returned (.bool R)∧Below w.heap.size w w':=by
 have HR:=Lib.hid hR;clear hR
 have HN:=Lib.hid hN;have HT:=Lib.hid hT;have HZ:=Lib.hid ht;clear hN hT ht
 subst hk
 go_enter Tryz.func74,Tryz.ntmps74
 go_upto_region 4 with fail
 by_cases hm:(m==0)=true
 ·skip
  have HG:=Lib.hid (HN.out (by first|trivial|decide|simp))
  by_cases hg:nm=true
  ·skip
   obtain rfl:R=((!n && (d==0 && x==0)) && ((r==0 && (c==0 && (!p && !q))) && (r2==0 && (c2==0 && (!p2 && !q2))))):=by rw [←HR.out];simp only [nodeB_7,hm,hg,Bool.and_false,Bool.false_and,Bool.true_and,Bool.and_true,Bool.not_true,Bool.not_false,Bool.or_true,Bool.true_or,Bool.false_or,Bool.or_false];try rfl
   have HGG:=Lib.hid hg;clear hg
   go_wp2_with fail
   refine(impl_isName.calls _ _ _ _ (HT.out.below (z2q (z2q (Below.refl w.heap.size w) _) _)) HG.out).mono ?_;rintro e w2 ⟨rfl,hb⟩
   obtain⟨hc2,hf2⟩:=bcell hb
   have HB2:=Lib.hid (z5q (z2q (z2q (Below.refl w.heap.size w) _) _) hb)
   have hsz2:w.heap.size+1<w2.heap.size:=by have h_:=hb.size;simp at h_;omega
   have hsy2:w.heap.size<w2.heap.size:=by omega
   clear hb
   rw [HGG.out]
   go_wp2_with fail
   go_ret
   exact⟨by first|rfl|(simp;done),by repeat(first|assumption|exact Below.refl _ _|exact HB2.out|exact HB3.out|apply z2q|apply z4q|apply z3q)⟩
  ·replace hg:=Bool.eq_false_iff.mpr hg
   obtain rfl:R=false:=by rw [←HR.out];simp only [nodeB_7,hm,hg,Bool.and_false,Bool.false_and,Bool.true_and,Bool.and_true,Bool.not_true,Bool.not_false,Bool.or_true,Bool.true_or,Bool.false_or,Bool.or_false];try rfl
   have HGG:=Lib.hid hg;clear hg
   go_wp2_with fail
   refine(impl_isName.calls _ _ _ _ (HT.out.below (z2q (z2q (Below.refl w.heap.size w) _) _)) HG.out).mono ?_;rintro e w2 ⟨rfl,hb⟩
   obtain⟨hc2,hf2⟩:=bcell hb
   have HB2:=Lib.hid (z5q (z2q (z2q (Below.refl w.heap.size w) _) _) hb)
   have hsz2:w.heap.size+1<w2.heap.size:=by have h_:=hb.size;simp at h_;omega
   have hsy2:w.heap.size<w2.heap.size:=by omega
   clear hb
   rw [HGG.out]
   go_wp2_with fail
   go_ret
   exact⟨by first|rfl|(simp;done),by repeat(first|assumption|exact Below.refl _ _|exact HB2.out|exact HB3.out|apply z2q|apply z4q|apply z3q)⟩
 ·replace hm:=Bool.eq_false_iff.mpr hm
  obtain rfl:R=false:=by rw [←HR.out];simp only [nodeB_7,hm,Bool.and_false,Bool.false_and,Bool.true_and,Bool.and_true,Bool.not_true,Bool.not_false,Bool.or_true,Bool.true_or,Bool.false_or,Bool.or_false];try rfl
  go_wp2_with fail
  go_ret
  exact⟨by first|rfl|(simp;done),by repeat(first|assumption|exact Below.refl _ _|exact HB2.out|exact HB3.out|apply z2q|apply z4q|apply z3q)⟩

set_option maxHeartbeats 16000000 in
set_option maxRecDepth 100000 in
theorem gn_13 (k:Int) (t:ByteArray) (n:Bool) (d x r c:Int) (p q:Bool) (r2 c2:Int) (p2 q2:Bool) (m:Int) (w:World) (hT:Tab w) (nm:Bool) (R:Bool) (hR:nodeB nm ((atoiV t).2.isNone && arB (atoiV t).1 t m) k t n d x r c p q r2 c2 p2 q2 m=R) (hN:k=7∨k=11→impl_isName.f NK t=some nm) (ht:t.size≤1048576) (hk:k=13):
  Calls Tryz.prog 74 #[.agg #[.int .i64 k,.string t,.bool n,.int .i64 d,.int .i64 x,.int .i64 r,.int .i64 c,.bool p,.bool q,.int .i64 r2,.int .i64 c2,.bool p2,.bool q2,.int .i64 m]] w fun e w'=>e= .returned (.bool R)∧Below w.heap.size w w':=by
 have HR:=Lib.hid hR;clear hR
 have HN:=Lib.hid hN;have HT:=Lib.hid hT;have HZ:=Lib.hid ht;clear hN hT ht
 subst hk
 go_enter Tryz.func74,Tryz.ntmps74
 go_upto_region 4 with fail
 by_cases hm:(m==0)=true
 ·skip
  have hcm:∀ a b:Bool,(a && b)=(b && a):=Bool.and_comm
  obtain rfl:R=((t.toList==([]:List UInt8)) && ((!n && (d==0 && x==0)) && ((r==0 && (c==0 && (!p && !q))) && (r2==0 && (c2==0 && (!p2 && !q2)))))):=by rw [←HR.out];simp only [nodeB_13,hm,Bool.true_and];rw [Bool.and_comm];rfl
  clear hcm
  go_wp2_with fail
  go_ret
  exact⟨by first|rfl|(simp;done),by repeat(first|assumption|exact Below.refl _ _|exact HB2.out|exact HB3.out|apply z2q|apply z4q|apply z3q)⟩
 ·replace hm:=Bool.eq_false_iff.mpr hm
  obtain rfl:R=false:=by rw [←HR.out];simp only [nodeB_13,hm,Bool.and_false,Bool.false_and,Bool.true_and,Bool.and_true,Bool.not_true,Bool.not_false,Bool.or_true,Bool.true_or,Bool.false_or,Bool.or_false];try rfl
  go_wp2_with fail
  go_ret
  exact⟨by first|rfl|(simp;done),by repeat(first|assumption|exact Below.refl _ _|exact HB2.out|exact HB3.out|apply z2q|apply z4q|apply z3q)⟩

set_option maxHeartbeats 16000000 in
set_option maxRecDepth 100000 in
theorem gn_8 (k:Int) (t:ByteArray) (n:Bool) (d x r c:Int) (p q:Bool) (r2 c2:Int) (p2 q2:Bool) (m:Int) (w:World) (hT:Tab w) (nm:Bool) (R:Bool) (hR:nodeB nm ((atoiV t).2.isNone && arB (atoiV t).1 t m) k t n d x r c p q r2 c2 p2 q2 m=R) (hN:k=7∨k=11→impl_isName.f NK t=some nm) (ht:t.size≤1048576) (hk:k=8):
  Calls Tryz.prog 74 #[.agg #[.int .i64 k,.string t,.bool n,.int .i64 d,.int .i64 x,.int .i64 r,.int .i64 c,.bool p,.bool q,.int .i64 r2,.int .i64 c2,.bool p2,.bool q2,.int .i64 m]] w fun e w'=>e= .returned (.bool R)∧Below w.heap.size w w':=by
 have HR:=Lib.hid hR;clear hR
 have HN:=Lib.hid hN;have HT:=Lib.hid hT;have HZ:=Lib.hid ht;clear hN hT ht
 subst hk
 go_enter Tryz.func74,Tryz.ntmps74
 go_upto_region 4 with fail
 by_cases hm:(m==1)=true
 ·skip
  have hcm:∀ a b:Bool,(a && b)=(b && a):=Bool.and_comm
  obtain rfl:R=((t.toList==([]:List UInt8)) && ((!n && (d==0 && x==0)) && ((r==0 && (c==0 && (!p && !q))) && (r2==0 && (c2==0 && (!p2 && !q2)))))):=by rw [←HR.out];simp only [nodeB_8,hm,Bool.true_and];rw [Bool.and_comm];rfl
  clear hcm
  go_wp2_with fail
  go_ret
  exact⟨by first|rfl|(simp;done),by repeat(first|assumption|exact Below.refl _ _|exact HB2.out|exact HB3.out|apply z2q|apply z4q|apply z3q)⟩
 ·replace hm:=Bool.eq_false_iff.mpr hm
  obtain rfl:R=false:=by rw [←HR.out];simp only [nodeB_8,hm,Bool.and_false,Bool.false_and,Bool.true_and,Bool.and_true,Bool.not_true,Bool.not_false,Bool.or_true,Bool.true_or,Bool.false_or,Bool.or_false];try rfl
  go_wp2_with fail
  go_ret
  exact⟨by first|rfl|(simp;done),by repeat(first|assumption|exact Below.refl _ _|exact HB2.out|exact HB3.out|apply z2q|apply z4q|apply z3q)⟩

set_option maxHeartbeats 16000000 in
set_option maxRecDepth 100000 in
theorem gn_9 (k:Int) (t:ByteArray) (n:Bool) (d x r c:Int) (p q:Bool) (r2 c2:Int) (p2 q2:Bool) (m:Int) (w:World) (hT:Tab w) (nm:Bool) (R:Bool) (hR:nodeB nm ((atoiV t).2.isNone && arB (atoiV t).1 t m) k t n d x r c p q r2 c2 p2 q2 m=R) (hN:k=7∨k=11→impl_isName.f NK t=some nm) (ht:t.size≤1048576) (hk:k=9):
  Calls Tryz.prog 74 #[.agg #[.int .i64 k,.string t,.bool n,.int .i64 d,.int .i64 x,.int .i64 r,.int .i64 c,.bool p,.bool q,.int .i64 r2,.int .i64 c2,.bool p2,.bool q2,.int .i64 m]] w fun e w'=>e= .returned (.bool R)∧Below w.heap.size w w':=by
 have HR:=Lib.hid hR;clear hR
 have HN:=Lib.hid hN;have HT:=Lib.hid hT;have HZ:=Lib.hid ht;clear hN hT ht
 subst hk
 go_enter Tryz.func74,Tryz.ntmps74
 go_upto_region 4 with fail
 by_cases hm:(m==1)=true
 ·skip
  have hcm:∀ a b:Bool,(a && b)=(b && a):=Bool.and_comm
  obtain rfl:R=((t.toList==([]:List UInt8)) && ((!n && (d==0 && x==0)) && ((r==0 && (c==0 && (!p && !q))) && (r2==0 && (c2==0 && (!p2 && !q2)))))):=by rw [←HR.out];simp only [nodeB_9,hm,Bool.true_and];rw [Bool.and_comm];rfl
  clear hcm
  go_wp2_with fail
  go_ret
  exact⟨by first|rfl|(simp;done),by repeat(first|assumption|exact Below.refl _ _|exact HB2.out|exact HB3.out|apply z2q|apply z4q|apply z3q)⟩
 ·replace hm:=Bool.eq_false_iff.mpr hm
  obtain rfl:R=false:=by rw [←HR.out];simp only [nodeB_9,hm,Bool.and_false,Bool.false_and,Bool.true_and,Bool.and_true,Bool.not_true,Bool.not_false,Bool.or_true,Bool.true_or,Bool.false_or,Bool.or_false];try rfl
  go_wp2_with fail
  go_ret
  exact⟨by first|rfl|(simp;done),by repeat(first|assumption|exact Below.refl _ _|exact HB2.out|exact HB3.out|apply z2q|apply z4q|apply z3q)⟩

set_option maxHeartbeats 16000000 in
set_option maxRecDepth 100000 in
theorem gn_10 (k:Int) (t:ByteArray) (n:Bool) (d x r c:Int) (p q:Bool) (r2 c2:Int) (p2 q2:Bool) (m:Int) (w:World) (hT:Tab w) (nm:Bool) (R:Bool) (hR:nodeB nm ((atoiV t).2.isNone && arB (atoiV t).1 t m) k t n d x r c p q r2 c2 p2 q2 m=R) (hN:k=7∨k=11→impl_isName.f NK t=some nm) (ht:t.size≤1048576) (hk:k=10):
  Calls Tryz.prog 74 #[.agg #[.int .i64 k,.string t,.bool n,.int .i64 d,.int .i64 x,.int .i64 r,.int .i64 c,.bool p,.bool q,.int .i64 r2,.int .i64 c2,.bool p2,.bool q2,.int .i64 m]] w fun e w'=>e= .returned (.bool R)∧Below w.heap.size w w':=by
 have HR:=Lib.hid hR;clear hR
 have HN:=Lib.hid hN;have HT:=Lib.hid hT;have HZ:=Lib.hid ht;clear hN hT ht
 subst hk
 go_enter Tryz.func74,Tryz.ntmps74
 go_upto_region 4 with fail
 by_cases hm:(m==2)=true
 ·skip
  have HG:=Lib.hid (implOp_is t)
  by_cases hg:opB t=true
  ·skip
   obtain rfl:R=((!n && (d==0 && x==0)) && ((r==0 && (c==0 && (!p && !q))) && (r2==0 && (c2==0 && (!p2 && !q2))))):=by rw [←HR.out];simp only [nodeB_10,hm,hg,Bool.and_false,Bool.false_and,Bool.true_and,Bool.and_true,Bool.not_true,Bool.not_false,Bool.or_true,Bool.true_or,Bool.false_or,Bool.or_false];try rfl
   have HGG:=Lib.hid hg;clear hg
   go_wp2_with fail
   refine(impl_isOp.calls _ _ _ HG.out).mono ?_;rintro e w2 ⟨rfl,hb⟩
   obtain⟨hc2,hf2⟩:=bcell (Drawn0.below hb)
   have HB2:=Lib.hid (z5q (z2q (z2q (Below.refl w.heap.size w) _) _) (Drawn0.below hb))
   have hsz2:w.heap.size+1<w2.heap.size:=by have h_:=(Drawn0.below hb).size;simp at h_;omega
   have hsy2:w.heap.size<w2.heap.size:=by omega
   clear hb
   rw [HGG.out]
   go_wp2_with fail
   go_ret
   exact⟨by first|rfl|(simp;done),by repeat(first|assumption|exact Below.refl _ _|exact HB2.out|exact HB3.out|apply z2q|apply z4q|apply z3q)⟩
  ·replace hg:=Bool.eq_false_iff.mpr hg
   obtain rfl:R=false:=by rw [←HR.out];simp only [nodeB_10,hm,hg,Bool.and_false,Bool.false_and,Bool.true_and,Bool.and_true,Bool.not_true,Bool.not_false,Bool.or_true,Bool.true_or,Bool.false_or,Bool.or_false];try rfl
   have HGG:=Lib.hid hg;clear hg
   go_wp2_with fail
   refine(impl_isOp.calls _ _ _ HG.out).mono ?_;rintro e w2 ⟨rfl,hb⟩
   obtain⟨hc2,hf2⟩:=bcell (Drawn0.below hb)
   have HB2:=Lib.hid (z5q (z2q (z2q (Below.refl w.heap.size w) _) _) (Drawn0.below hb))
   have hsz2:w.heap.size+1<w2.heap.size:=by have h_:=(Drawn0.below hb).size;simp at h_;omega
   have hsy2:w.heap.size<w2.heap.size:=by omega
   clear hb
   rw [HGG.out]
   go_wp2_with fail
   go_ret
   exact⟨by first|rfl|(simp;done),by repeat(first|assumption|exact Below.refl _ _|exact HB2.out|exact HB3.out|apply z2q|apply z4q|apply z3q)⟩
 ·replace hm:=Bool.eq_false_iff.mpr hm
  obtain rfl:R=false:=by rw [←HR.out];simp only [nodeB_10,hm,Bool.and_false,Bool.false_and,Bool.true_and,Bool.and_true,Bool.not_true,Bool.not_false,Bool.or_true,Bool.true_or,Bool.false_or,Bool.or_false];try rfl
  go_wp2_with fail
  go_ret
  exact⟨by first|rfl|(simp;done),by repeat(first|assumption|exact Below.refl _ _|exact HB2.out|exact HB3.out|apply z2q|apply z4q|apply z3q)⟩

end Go.Proofs.YtegdpgpbdcediaaGreatDoor.PFnExactUsedNames
