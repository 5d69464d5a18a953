/- Functions of the program as Lean functions, and proofs that the Go code comes to their answers: for the law FnExactUsedNames; made out of the print by a program of mine (compact.py). No conditions but each theorem's own. -/
import Derived.Test.YtegdpgpbdcediaaGreatDoorMFnExactUsedNamesa0
import Derived.Test.YtegdpgpbdcediaaGreatDoorMFnExactUsedNamesa2
import Derived.Test.YtegdpgpbdcediaaGreatDoorMFnExactUsedNamesa3
import Derived.Test.YtegdpgpbdcediaaGreatDoorMFnExactUsedNamesa4
import Derived.Test.YtegdpgpbdcediaaGreatDoorMFnExactUsedNamesa5
import Derived.Test.YtegdpgpbdcediaaGreatDoorMFnExactUsedNamesa6
namespace Go.Proofs.YtegdpgpbdcediaaGreatDoor.PFnExactUsedNames
open List (map_toArray map_cons map_nil length_drop length_take set_cons_zero set_cons_succ setIfInBounds_toArray)
open Go.RowKit Go.Proofs.YtegdpgpbdcediaaGreatDoorW.PrintWords Go.Proofs.YtegdpgpbdcediaaGreatDoorW.PrintLast Go.Proofs.YtegdpgpbdcediaaGreatDoorW.PrintMore
attribute [local go_sem] max2_int min2_int max_two min_two max_three min_three max_four min_four   -- for this text's walks alone
set_option linter.unusedVariables false
set_option linter.unusedSimpArgs false

attribute [local go_sem high] eqA47 eqA65
set_option maxHeartbeats 8000000 in
set_option maxRecDepth 100000 in
theorem spec_l4Name.calls (k:Nat) (a0:ByteArray) (r:Bool) (w:World) (h:spec_l4Name.f k a0=some r):
  Calls Tryz.prog 115 #[.string a0] w fun e w'=>e= .returned (.bool r)∧Below w.heap.size w w':=by
 have hu47:=Tryz.underlying47
 have HB:=Aside0.mk (Below.refl w.heap.size w)
 have H:(if(a0.size:Int)<1 then(spec_l4Name.j0 k a0 true)else(if(a0.size:Int) > 20 then(spec_l4Name.j0 k a0 true)else(if 0<(a0.size:Int)then((spec_l4Letter.f (bt a0 0)).bind fun t306=>(if t306=true then(spec_l4Name.j0 k a0 false)else(spec_l4Name.j0 k a0 ((bt a0 0) !=95))))else(none))))=some r:=h
 clear h
 have HC2:=Aside0.mk H
 clear H
 go_enter Tryz.func115,Tryz.ntmps115
 go_upto_region 1 with (fail)
 go_cut [25] (fun v25 wc=>∃ (kq:Nat) (x25_1:Bool),v25= .bool x25_1∧Aside0 (spec_l4Name.j0 kq a0 x25_1=some r)∧Aside0 (kq≤k)∧Aside0 (Below w.heap.size w wc))
 case first=>
  have H:=HC2.out
  clear HC2
  by_cases c3:(a0.size:Int)<1
  ·rw [if_pos c3]at H
   have c3b0:decide ((a0.size:Int)<1)=true:=decide_eq_true c3
   have c3b1:decide (a0.size<1)=true:=decide_eq_true (by omega)
   clear c3
   (first|rw [c3b0]|(simp only [i64_w,i32_w];rw [c3b0])|skip)
   have H':=Aside0.mk H
   clear H
   go_wp2
   go_meet
   case rel=>exact⟨_,(true),(by first|rfl|(simp;done)|(simp [*];done)|(simp;unfold wrap64;omega)),H',⟨by first|omega|exact Nat.le_refl _⟩,⟨by repeat(first|(with_reducible first|exact HB.out|apply z2q|apply z3q|apply z4q)|exact HB.out)⟩⟩
  ·rw [if_neg c3]at H
   have c3b0:decide ((a0.size:Int)<1)=false:=decide_eq_false c3
   have c3b1:decide (a0.size<1)=false:=decide_eq_false (by omega)
   clear c3
   (first|rw [c3b0]|(simp only [i64_w,i32_w];rw [c3b0])|skip)
   by_cases c4:(a0.size:Int) > 20
   ·rw [if_pos c4]at H
    have c4b0:decide (20<(a0.size:Int))=true:=decide_eq_true c4
    have c4b1:decide (20<a0.size)=true:=decide_eq_true (by omega)
    clear c4
    have H':=Aside0.mk H
    clear H
    go_wp2
    go_meet
    case rel=>exact⟨_,(true),(by first|rfl|(simp;done)|(simp [*];done)|(simp;unfold wrap64;omega)),H',⟨by first|omega|exact Nat.le_refl _⟩,⟨by repeat(first|(with_reducible first|exact HB.out|apply z2q|apply z3q|apply z4q)|exact HB.out)⟩⟩
   ·rw [if_neg c4]at H
    have c4b0:decide (20<(a0.size:Int))=false:=decide_eq_false c4
    have c4b1:decide (20<a0.size)=false:=decide_eq_false (by omega)
    clear c4
    by_cases c5:0<(a0.size:Int)
    ·rw [if_pos c5]at H
     have c5b0:decide (0<(a0.size:Int))=true:=decide_eq_true c5
     have c5b1:decide (0<a0.size)=true:=decide_eq_true (by omega)
     clear c5
     replace H:=Option.bind_eq_some_iff.mp H
     obtain⟨t306,A70,H⟩:=H
     replace H:(if t306=true then(spec_l4Name.j0 k a0 false)else(spec_l4Name.j0 k a0 ((bt a0 0) !=95)))=some r:=H
     have A7:=Aside0.mk A70
     clear A70
     by_cases c8:t306=true
     ·subst c8
      have H1:(spec_l4Name.j0 k a0 false)=some r:=by rw [if_pos rfl]at H;exact H
      clear H
      have H:=H1
      clear H1
      have H':=Aside0.mk H
      clear H
      have p6:0≤(0:Int):=(by omega)
      have q6:0<a0.size:=(by have:(0:Int)<(a0.size:Int):=of_decide_eq_true (by first|(with_reducible assumption)|assumption);omega)
      have hx6:∀ h:0<a0.size,((a0[0]'h).toNat:Int)=bt a0 0:=bt_at a0 0
      clear p6
      have qi6:(0<(a0.size:Int))=True:=eq_true (of_decide_eq_true (by first|(with_reducible assumption)|assumption))
      replace q6:=eq_true q6
      go_wp2_with (first|(go_at_call 130;(with_reducible refine(spec_l4Letter.calls (bt a0 0) true _ A7.out).mono ?_);rintro e w' ⟨rfl,⟨nd,rfl⟩⟩))
      go_meet
      case rel=>exact⟨_,(false),(by first|rfl|(simp;done)|(simp [*];done)|(simp;unfold wrap64;omega)),H',⟨by first|omega|exact Nat.le_refl _⟩,⟨by repeat(first|(with_reducible first|exact HB.out|apply z2q|apply z3q|apply z4q)|exact HB.out)⟩⟩
     ·replace c8:=Bool.eq_false_iff.mpr c8
      subst c8
      have H1:(spec_l4Name.j0 k a0 ((bt a0 0) !=95))=some r:=by rw [if_neg (show ¬ (false=true)by decide)]at H;exact H
      clear H
      have H:=H1
      clear H1
      have H':=Aside0.mk H
      clear H
      have p6:0≤(0:Int):=(by omega)
      have q6:0<a0.size:=(by have:(0:Int)<(a0.size:Int):=of_decide_eq_true (by first|(with_reducible assumption)|assumption);omega)
      have hx6:∀ h:0<a0.size,((a0[0]'h).toNat:Int)=bt a0 0:=bt_at a0 0
      clear p6
      have qi6:(0<(a0.size:Int))=True:=eq_true (of_decide_eq_true (by first|(with_reducible assumption)|assumption))
      replace q6:=eq_true q6
      go_wp2_with (first|(go_at_call 130;(with_reducible refine(spec_l4Letter.calls (bt a0 0) false _ A7.out).mono ?_);rintro e w' ⟨rfl,⟨nd,rfl⟩⟩;have p9:0≤(0:Int):=(by omega);have q9:0<a0.size:=(by have:(0:Int)<(a0.size:Int):=of_decide_eq_true (by first|(with_reducible assumption)|assumption);omega);have hx9:∀ h:0<a0.size,((a0[0]'h).toNat:Int)=bt a0 0:=bt_at a0 0;clear p9;have qi9:(0<(a0.size:Int))=True:=eq_true (of_decide_eq_true (by first|(with_reducible assumption)|assumption));replace q9:=eq_true q9))
      go_meet
      case rel=>exact⟨_,(((bt a0 0) !=95)),(by first|rfl|(simp;done)|(simp [*];done)|(simp;unfold wrap64;omega)),H',⟨by first|omega|exact Nat.le_refl _⟩,⟨by repeat(first|(with_reducible first|exact HB.out|apply z2q|apply z3q|apply z4q)|exact HB.out)⟩⟩
    ·rw [if_neg c5]at H
     exact absurd H (by simp)
 case rest=>
  clear HC2
  try clear c1
  try clear p2
  try clear c3
  try clear c3b0
  try clear c3b1
  try clear c4
  try clear c4b0
  try clear c4b1
  try clear c5
  try clear c5b0
  try clear c5b1
  try clear p6
  try clear q6
  try clear hx6
  try clear qi6
  try clear c8
  try clear p9
  try clear q9
  try clear hx9
  try clear qi9
  try clear p6
  try clear p9
  try clear q6
  try clear q9
  obtain⟨kq,x25_1,rfl,HA,HJ1,HB⟩:=hcut
  cases kq with
  |zero=>exact absurd HA.out (by simp [spec_l4Name.j0])
  |succ kj1=>
   have H:=HA.out
   clear HA
   simp only [spec_l4Name.j0]at H
   by_cases c10:x25_1=true
   ·subst c10
    have H1:(some false)=some r:=by rw [if_pos rfl]at H;exact H
    clear H
    have H:=H1
    clear H1
    obtain rfl:=Option.some.inj H
    go_wp2
    go_ret
    exact⟨by first|rfl|(simp [errW_none,errW_some]<;>rfl)|(simp [*,errW_none,errW_some]<;>rfl),by repeat(first|(with_reducible first|exact HB.out|apply z2q|apply z3q|apply z4q)|exact HB.out)⟩
   ·replace c10:=Bool.eq_false_iff.mpr c10
    subst c10
    have H1:(spec_l4Name.l0 kj1 a0 0)=some r:=by rw [if_neg (show ¬ (false=true)by decide)]at H;exact H
    clear H
    have H:=H1
    clear H1
    have H':=Aside0.mk H
    clear H
    go_wp2
    go_loopg [3] kj1 (fun kq v3 w'=>∃ (x3_2:Int),v3= .int .i64 x3_2∧Aside0 (spec_l4Name.l0 kq a0 x3_2=some r)∧Aside0 (kq≤kj1)∧Aside0 (Below w.heap.size w w'))
    case atStart=>exact⟨(0),(by first|rfl|(simp;done)|(simp [*];done)|(simp;unfold wrap64;omega)),H',⟨Nat.le_refl _⟩,⟨by repeat(first|(with_reducible first|exact HB.out|apply z2q|apply z3q|apply z4q)|exact HB.out)⟩⟩
    case round=>
     clear H'
     try clear c1
     try clear p2
     try clear c3
     try clear c3b0
     try clear c3b1
     try clear c4
     try clear c4b0
     try clear c4b1
     try clear c5
     try clear c5b0
     try clear c5b1
     try clear p6
     try clear q6
     try clear hx6
     try clear qi6
     try clear c8
     try clear p9
     try clear q9
     try clear hx9
     try clear qi9
     try clear c10
     try clear p2
     try clear p6
     try clear p9
     try clear q6
     try clear q9
     obtain⟨x3_2,rfl,HA,HK2,HB⟩:=hrel
     cases gk with
     |zero=>exact absurd HA.out (by simp [spec_l4Name.l0])
     |succ k2=>
      have H:=HA.out
      clear HA
      simp only [spec_l4Name.l0]at H
      by_cases c11:x3_2<(a0.size:Int)
      ·rw [if_pos c11]at H
       have c11b0:decide (x3_2<(a0.size:Int))=true:=decide_eq_true c11
       clear c11
       by_cases c12:0≤x3_2
       ·rw [if_pos c12]at H
        have c12b0:decide (0≤x3_2)=true:=decide_eq_true c12
        clear c12
        replace H:=Option.bind_eq_some_iff.mp H
        obtain⟨t307,A140,H⟩:=H
        replace H:(if t307=true then(spec_l4Name.l0 k2 a0 (wrap64 (x3_2+1)))else(some false))=some r:=H
        have A14:=Aside0.mk A140
        clear A140
        by_cases c15:t307=true
        ·subst c15
         have H1:(spec_l4Name.l0 k2 a0 (wrap64 (x3_2+1)))=some r:=by rw [if_pos rfl]at H;exact H
         clear H
         have H:=H1
         clear H1
         have H':=Aside0.mk H
         clear H
         have p13:0≤(x3_2:Int):=of_decide_eq_true (by first|(with_reducible assumption)|assumption)
         have q13:x3_2<(a0.size:Int):=of_decide_eq_true (by first|(with_reducible assumption)|assumption)
         have hx13:=bt_at a0 x3_2
         replace p13:=eq_true p13
         replace q13:=eq_true q13
         go_wp2_with (first|((with_reducible refine z8q (f:=131) rfl ?_);refine z17q (some 35) rfl rfl Tryz.func131 (by kernel_rfl) rfl #[.int .u8 (bt a0 x3_2)] rfl (by(try simp only [map_toArray,map_cons,map_nil]);first|done|rfl|(simp only [length_drop,length_take];rfl)) ?_;(with_reducible refine(spec_l4NameByte.calls (bt a0 x3_2) true _ A14.out).mono ?_);rintro e w' ⟨rfl,⟨nd,rfl⟩⟩;refine⟨_,rfl,?_⟩))
         go_roundg k2
         case measure=>have:=HJ1.out;have:=HK2.out;omega
         case rel=>exact⟨(wrap64 (x3_2+1)),(by first|rfl|(simp;done)|(simp [*];done)|(simp;unfold wrap64;omega)),H',⟨by have:=HJ1.out;have:=HK2.out;omega⟩,⟨by repeat(first|(with_reducible first|exact HB.out|apply z2q|apply z3q|apply z4q)|exact HB.out)⟩⟩
        ·replace c15:=Bool.eq_false_iff.mpr c15
         subst c15
         have H1:(some false)=some r:=by rw [if_neg (show ¬ (false=true)by decide)]at H;exact H
         clear H
         have H:=H1
         clear H1
         obtain rfl:=Option.some.inj H
         have p13:0≤(x3_2:Int):=of_decide_eq_true (by first|(with_reducible assumption)|assumption)
         have q13:x3_2<(a0.size:Int):=of_decide_eq_true (by first|(with_reducible assumption)|assumption)
         have hx13:=bt_at a0 x3_2
         replace p13:=eq_true p13
         replace q13:=eq_true q13
         go_wp2_with (first|((with_reducible refine z8q (f:=131) rfl ?_);refine z17q (some 35) rfl rfl Tryz.func131 (by kernel_rfl) rfl #[.int .u8 (bt a0 x3_2)] rfl (by(try simp only [map_toArray,map_cons,map_nil]);first|done|rfl|(simp only [length_drop,length_take];rfl)) ?_;(with_reducible refine(spec_l4NameByte.calls (bt a0 x3_2) false _ A14.out).mono ?_);rintro e w' ⟨rfl,⟨nd,rfl⟩⟩;refine⟨_,rfl,?_⟩))
         go_ret
         exact⟨by first|rfl|(simp [errW_none,errW_some]<;>rfl)|(simp [*,errW_none,errW_some]<;>rfl),by repeat(first|(with_reducible first|exact HB.out|apply z2q|apply z3q|apply z4q)|exact HB.out)⟩
       ·rw [if_neg c12]at H
        exact absurd H (by simp)
      ·rw [if_neg c11]at H
       have c11b0:decide (x3_2<(a0.size:Int))=false:=decide_eq_false c11
       clear c11
       replace H:=Option.bind_eq_some_iff.mp H
       obtain⟨t308,A160,H⟩:=H
       replace H:(if t308.toList=([84,82,85,69]:List UInt8)then(some false)else(if t308.toList=([70,65,76,83,69]:List UInt8)then(some false)else((spec_l4Second.f k2 t308).bind fun t309=>(if t309=true then(some false)else((spec_ReadRef.f k2 t308).bind fun bt310=>(some (!bt310.2.2.2.2)))))))=some r:=H
       have A16:=Aside0.mk A160
       clear A160
       by_cases c17:t308.toList=([84,82,85,69]:List UInt8)
       ·rw [if_pos c17]at H
        have c17b0:(t308.toList==([84,82,85,69]:List UInt8))=true:=beq_iff_eq.mpr c17
        have c17b1:(t308.toList !=([84,82,85,69]:List UInt8))=false:=bne_eq_false_iff_eq.mpr c17
        clear c17
        obtain rfl:=Option.some.inj H
        go_wp2_with (first|((with_reducible refine z8q (f:=40) rfl ?_);refine z17q (some 38) rfl rfl Tryz.func40 (by kernel_rfl) rfl #[.string a0] rfl (by(try simp only [map_toArray,map_cons,map_nil]);first|done|rfl|(simp only [length_drop,length_take];rfl)) ?_;(with_reducible refine(spec_l4Upper.calls a0 t308 _ A16.out).mono ?_);rintro e w18 ⟨rfl,hb⟩;refine⟨_,rfl,?_⟩;have n0_:=Aside0.mk (z5q (ibh HB.out) hb);clear HB;have HB:=n0_;clear n0_;(try clear hb);(try clear hb2);(try clear hk);(try clear hi)))
        go_ret
        exact⟨by first|rfl|(simp [errW_none,errW_some]<;>rfl)|(simp [*,errW_none,errW_some]<;>rfl),by repeat(first|(with_reducible first|exact HB.out|apply z2q|apply z3q|apply z4q)|exact HB.out)⟩
       ·rw [if_neg c17]at H
        have c17b0:(t308.toList==([84,82,85,69]:List UInt8))=false:=beq_eq_false_iff_ne.mpr c17
        have c17b1:(t308.toList !=([84,82,85,69]:List UInt8))=true:=bne_iff_ne.mpr c17
        by_cases c19:t308.toList=([70,65,76,83,69]:List UInt8)
        ·rw [if_pos c19]at H
         have c19b0:(t308.toList==([70,65,76,83,69]:List UInt8))=true:=beq_iff_eq.mpr c19
         have c19b1:(t308.toList !=([70,65,76,83,69]:List UInt8))=false:=bne_eq_false_iff_eq.mpr c19
         clear c19
         obtain rfl:=Option.some.inj H
         go_wp2_with (first|((with_reducible refine z8q (f:=40) rfl ?_);refine z17q (some 38) rfl rfl Tryz.func40 (by kernel_rfl) rfl #[.string a0] rfl (by(try simp only [map_toArray,map_cons,map_nil]);first|done|rfl|(simp only [length_drop,length_take];rfl)) ?_;(with_reducible refine(spec_l4Upper.calls a0 t308 _ A16.out).mono ?_);rintro e w20 ⟨rfl,hb⟩;refine⟨_,rfl,?_⟩;have n0_:=Aside0.mk (z5q (ibh HB.out) hb);clear HB;have HB:=n0_;clear n0_;(try clear hb);(try clear hb2);(try clear hk);(try clear hi)))
         go_ret
         exact⟨by first|rfl|(simp [errW_none,errW_some]<;>rfl)|(simp [*,errW_none,errW_some]<;>rfl),by repeat(first|(with_reducible first|exact HB.out|apply z2q|apply z3q|apply z4q)|exact HB.out)⟩
        ·rw [if_neg c19]at H
         have c19b0:(t308.toList==([70,65,76,83,69]:List UInt8))=false:=beq_eq_false_iff_ne.mpr c19
         have c19b1:(t308.toList !=([70,65,76,83,69]:List UInt8))=true:=bne_iff_ne.mpr c19
         replace H:=Option.bind_eq_some_iff.mp H
         obtain⟨t309,A210,H⟩:=H
         replace H:(if t309=true then(some false)else((spec_ReadRef.f k2 t308).bind fun bt310=>(some (!bt310.2.2.2.2))))=some r:=H
         have A21:=Aside0.mk A210
         clear A210
         by_cases c22:t309=true
         ·subst c22
          have H1:(some false)=some r:=by rw [if_pos rfl]at H;exact H
          clear H
          have H:=H1
          clear H1
          obtain rfl:=Option.some.inj H
          go_wp2_with (first|((with_reducible refine z8q (f:=40) rfl ?_);refine z17q (some 38) rfl rfl Tryz.func40 (by kernel_rfl) rfl #[.string a0] rfl (by(try simp only [map_toArray,map_cons,map_nil]);first|done|rfl|(simp only [length_drop,length_take];rfl)) ?_;(with_reducible refine(spec_l4Upper.calls a0 t308 _ A16.out).mono ?_);rintro e w23 ⟨rfl,hb⟩;refine⟨_,rfl,?_⟩;have n0_:=Aside0.mk (z5q (ibh HB.out) hb);clear HB;have HB:=n0_;clear n0_;(try clear hb);(try clear hb2);(try clear hk);(try clear hi))|(go_at_call 132;(with_reducible refine(spec_l4Second.calls k2 t308 true _ A21.out).mono ?_);rintro e w' ⟨rfl,⟨nd,rfl⟩⟩))
          go_ret
          exact⟨by first|rfl|(simp [errW_none,errW_some]<;>rfl)|(simp [*,errW_none,errW_some]<;>rfl),by repeat(first|(with_reducible first|exact HB.out|apply z2q|apply z3q|apply z4q)|exact HB.out)⟩
         ·replace c22:=Bool.eq_false_iff.mpr c22
          subst c22
          have H1:((spec_ReadRef.f k2 t308).bind fun bt310=>(some (!bt310.2.2.2.2)))=some r:=by rw [if_neg (show ¬ (false=true)by decide)]at H;exact H
          clear H
          have H:=H1
          clear H1
          replace H:=Option.bind_eq_some_iff.mp H
          obtain⟨⟨t310,t311,t312,t313,t314⟩,A240,H⟩:=H
          replace H:(some (!t314))=some r:=H
          have A24:=Aside0.mk A240
          clear A240
          obtain rfl:=Option.some.inj H
          go_wp2_with (first|((with_reducible refine z8q (f:=40) rfl ?_);refine z17q (some 38) rfl rfl Tryz.func40 (by kernel_rfl) rfl #[.string a0] rfl (by(try simp only [map_toArray,map_cons,map_nil]);first|done|rfl|(simp only [length_drop,length_take];rfl)) ?_;(with_reducible refine(spec_l4Upper.calls a0 t308 _ A16.out).mono ?_);rintro e w25 ⟨rfl,hb⟩;refine⟨_,rfl,?_⟩;have n0_:=Aside0.mk (z5q (ibh HB.out) hb);clear HB;have HB:=n0_;clear n0_;(try clear hb);(try clear hb2);(try clear hk);(try clear hi))|(go_at_call 132;(with_reducible refine(spec_l4Second.calls k2 t308 false _ A21.out).mono ?_);rintro e w' ⟨rfl,⟨nd,rfl⟩⟩;(try(rw [drewN_self w25];generalize hq_:World.drewN w25 _=w25;have n0_:Aside0 (Below w.heap.size w w25):=⟨by rw [←hq_];exact(ibh HB.out)⟩;clear HB hq_;have HB:=n0_;clear n0_)))|((with_reducible refine z8q (f:=133) rfl ?_);refine z17q (some 51) rfl rfl Tryz.func133 (by kernel_rfl) rfl #[.string t308] rfl (by(try simp only [map_toArray,map_cons,map_nil]);first|done|rfl|(simp only [length_drop,length_take];rfl)) ?_;(with_reducible refine(spec_ReadRef.calls k2 t308 t310 t311 t312 t313 t314 _ A24.out).mono ?_);rintro e w26 ⟨rfl,hb⟩;refine⟨_,rfl,?_⟩;have n0_:=Aside0.mk (z5q (ibh HB.out) hb);clear HB;have HB:=n0_;clear n0_;(try clear hb);(try clear hb2);(try clear hk);(try clear hi))|((with_reducible refine z15q (N:=5) rfl ?_);(try(refine gate_guard (by rfl) ?_;dsimp only));refine z13q ?hg (N:=5) ?hd (cs:=#[.int .i64 0,.int .i64 0,.bool false,.bool false]) (t:=47) ?hr ?_;(case hd=>rfl);(case hg=>rfl);(case hr=>first|(go_simp;done)|(go_simp;rfl));intro gb315 hg w27 hbox hb;have n0_:=Aside0.mk (z5q (ibh HB.out) hb);have n1_:=Aside0.mk (hbox);have n2_:=Aside0.mk ((by rw [hg];exact(z6q (ibh HB.out)):w.heap.size≤gb315));have n3_:=Aside0.mk ((by rw [hg];exact(z6q (ibh HB.out)):w.heap.size≤gb315));clear HB;have HB:=n0_;have BK315:=n1_;have GW315:=n2_;have GE315:=n3_;clear n0_ n1_ n2_ n3_;clear hb hbox hg;obtain⟨hcz28_0,hcz28_1,hcz28_2,hcz28_3,hfz28_0,hfz28_1,hfz28_2,hfz28_3⟩:=cr4 (w:=w27) (g:=gb315) BK315.out))
          go_ret
          exact⟨by first|rfl|(simp [errW_none,errW_some]<;>rfl)|(simp [*,errW_none,errW_some]<;>rfl),by repeat(first|(with_reducible first|exact HB.out|apply z2q|apply z3q|apply z4q|refine z7q ?_ GE315.out)|exact HB.out)⟩



/-! ### spec_l4Ops: function 116 -/

def spec_l4Ops.f  :Option (List ByteArray):=some (([(⟨#[94]⟩:ByteArray),(⟨#[42]⟩:ByteArray),(⟨#[47]⟩:ByteArray),(⟨#[43]⟩:ByteArray),(⟨#[45]⟩:ByteArray),(⟨#[38]⟩:ByteArray),(⟨#[61]⟩:ByteArray),(⟨#[60]⟩:ByteArray),(⟨#[62]⟩:ByteArray),(⟨#[60,61]⟩:ByteArray),(⟨#[62,61]⟩:ByteArray),(⟨#[60,62]⟩:ByteArray)]:List ByteArray))

set_option maxHeartbeats 8000000 in
set_option maxRecDepth 100000 in
theorem spec_l4Ops.calls  (r:List ByteArray) (w:World) (h:spec_l4Ops.f  =some r):
  Calls Tryz.prog 116 #[] w fun e w'=>∃ v0_:Value,e= .returned (v0_)∧Kd.R Kd.string 9 w' w.heap.size (fun _=>True) v0_ r∧Below w.heap.size w w':=by
 have HB:=Aside0.mk (Below.refl w.heap.size w)
 have H:(some (([(⟨#[94]⟩:ByteArray),(⟨#[42]⟩:ByteArray),(⟨#[47]⟩:ByteArray),(⟨#[43]⟩:ByteArray),(⟨#[45]⟩:ByteArray),(⟨#[38]⟩:ByteArray),(⟨#[61]⟩:ByteArray),(⟨#[60]⟩:ByteArray),(⟨#[62]⟩:ByteArray),(⟨#[60,61]⟩:ByteArray),(⟨#[62,61]⟩:ByteArray),(⟨#[60,62]⟩:ByteArray)]:List ByteArray)))=some r:=h
 clear h
 obtain⟨y316,hy316⟩:∃ y_:List ByteArray,y_=(([(⟨#[94]⟩:ByteArray),(⟨#[42]⟩:ByteArray),(⟨#[47]⟩:ByteArray),(⟨#[43]⟩:ByteArray),(⟨#[45]⟩:ByteArray),(⟨#[38]⟩:ByteArray),(⟨#[61]⟩:ByteArray),(⟨#[60]⟩:ByteArray),(⟨#[62]⟩:ByteArray),(⟨#[60,61]⟩:ByteArray),(⟨#[62,61]⟩:ByteArray),(⟨#[60,62]⟩:ByteArray)]:List ByteArray)):=⟨_,rfl⟩
 replace H:(some y316)=some r:=by first|(rw [hy316];with_reducible exact H)|(have H2_:=(Option.bind_some _ _).symm.trans H;rw [hy316];with_reducible exact H2_)|(have H2_:=(Option.bind_some _ _).symm.trans H;with_reducible exact H2_)|with_reducible exact H|(rw [hy316];exact H)|exact H
 have Ny316:=Aside0.mk hy316
 clear hy316
 obtain rfl:=Option.some.inj H
 go_enter Tryz.func116,Tryz.ntmps116
 go_wp2_with (first|((with_reducible refine z15q (N:=1) rfl ?_);refine Kd.R_lit Kd.string _ 9 ?hg (N:=1) ?hd (xs:=([(⟨#[94]⟩:ByteArray),(⟨#[42]⟩:ByteArray),(⟨#[47]⟩:ByteArray),(⟨#[43]⟩:ByteArray),(⟨#[45]⟩:ByteArray),(⟨#[38]⟩:ByteArray),(⟨#[61]⟩:ByteArray),(⟨#[60]⟩:ByteArray),(⟨#[62]⟩:ByteArray),(⟨#[60,61]⟩:ByteArray),(⟨#[62,61]⟩:ByteArray),(⟨#[60,62]⟩:ByteArray)]:List ByteArray)) (inner:= [.string (⟨#[94]⟩:ByteArray),.string (⟨#[42]⟩:ByteArray),.string (⟨#[47]⟩:ByteArray),.string (⟨#[43]⟩:ByteArray),.string (⟨#[45]⟩:ByteArray),.string (⟨#[38]⟩:ByteArray),.string (⟨#[61]⟩:ByteArray),.string (⟨#[60]⟩:ByteArray),.string (⟨#[62]⟩:ByteArray),.string (⟨#[60,61]⟩:ByteArray),.string (⟨#[62,61]⟩:ByteArray),.string (⟨#[60,62]⟩:ByteArray)]) (ok:=fun _=>True) (okp:=fun _=>True) ?hr ?hp (fun _ hk=>hk) trivial (Below.refl _ _) (Nat.le_refl _) (by simp) ?_;(case hd=>rfl);(case hg=>rfl);(case hr=>first|(go_simp;done)|(go_simp;rfl));(case hp=>exact(Reps.one (show Kd.M Kd.string _ _ _ (⟨#[94]⟩:ByteArray) [.string (⟨#[94]⟩:ByteArray)]from rfl) (Reps.one (show Kd.M Kd.string _ _ _ (⟨#[42]⟩:ByteArray) [.string (⟨#[42]⟩:ByteArray)]from rfl) (Reps.one (show Kd.M Kd.string _ _ _ (⟨#[47]⟩:ByteArray) [.string (⟨#[47]⟩:ByteArray)]from rfl) (Reps.one (show Kd.M Kd.string _ _ _ (⟨#[43]⟩:ByteArray) [.string (⟨#[43]⟩:ByteArray)]from rfl) (Reps.one (show Kd.M Kd.string _ _ _ (⟨#[45]⟩:ByteArray) [.string (⟨#[45]⟩:ByteArray)]from rfl) (Reps.one (show Kd.M Kd.string _ _ _ (⟨#[38]⟩:ByteArray) [.string (⟨#[38]⟩:ByteArray)]from rfl) (Reps.one (show Kd.M Kd.string _ _ _ (⟨#[61]⟩:ByteArray) [.string (⟨#[61]⟩:ByteArray)]from rfl) (Reps.one (show Kd.M Kd.string _ _ _ (⟨#[60]⟩:ByteArray) [.string (⟨#[60]⟩:ByteArray)]from rfl) (Reps.one (show Kd.M Kd.string _ _ _ (⟨#[62]⟩:ByteArray) [.string (⟨#[62]⟩:ByteArray)]from rfl) (Reps.one (show Kd.M Kd.string _ _ _ (⟨#[60,61]⟩:ByteArray) [.string (⟨#[60,61]⟩:ByteArray)]from rfl) (Reps.one (show Kd.M Kd.string _ _ _ (⟨#[62,61]⟩:ByteArray) [.string (⟨#[62,61]⟩:ByteArray)]from rfl) (Reps.one (show Kd.M Kd.string _ _ _ (⟨#[60,62]⟩:ByteArray) [.string (⟨#[60,62]⟩:ByteArray)]from rfl) (Reps.none _ _))))))))))))));intro v317 w1 ho2 hb hg_ hnew_;clear hg_ hnew_;(first|rw [←Ny316.out]at ho2|(simp only [Int.reduceToNat]at ho2;rw [←Ny316.out]at ho2));have n0_:=Aside0.mk (Kd.R_lower ho2 (z6q (ibh HB.out)));have n1_:=Aside0.mk (z5q (ibh HB.out) hb);clear HB;have HO318:=n0_;have HB:=n1_;clear n0_ n1_;clear hb ho2))
 go_ret
 exact⟨_,by first|rfl|(simp [errW_none,errW_some]<;>rfl)|(simp [*,errW_none,errW_some]<;>rfl),by(with_reducible repeat(first|apply Kd.R_alloc|apply Kd.R_drewN|apply Kd.R_drew));exact HO318.out,by repeat(first|(with_reducible first|exact HB.out|apply z2q|apply z3q|apply z4q)|exact HB.out)⟩



/-! ### spec_l4Constant: function 119 -/

def spec_l4Constant.j0:Nat→Int→Bool→Int→ByteArray→Bool→Int→Int→Int→Int→Bool→Bool→Int→Int→Bool→Bool→Int→List (S70)→Option (Bool)
 |0,_,_,_,_,_,_,_,_,_,_,_,_,_,_,_,_,_=>none
 |k+1,x5,x6,x320000,x320001,x320002,x320003,x320004,x320005,x320006,x320007,x320008,x320009,x320010,x320011,x320012,x320013,x320014=>if x6=true then(some true)else(if x5=8 then(if(x320014.length:Int)=1 then(if 0<(x320014.length:Int)then(some (((rd_T70 x320014 0).f0.f0)==1))else(none))else(some false))else(some false))

def spec_l4Constant.f (k:Nat) (a0_0:Int) (a0_1:ByteArray) (a0_2:Bool) (a0_3:Int) (a0_4:Int) (a0_5:Int) (a0_6:Int) (a0_7:Bool) (a0_8:Bool) (a0_9:Int) (a0_10:Int) (a0_11:Bool) (a0_12:Bool) (a0_13:Int) (l0_14:List (S70)):Option (Bool):=if a0_0=1 then(spec_l4Constant.j0 k a0_0 (a0_0==1) a0_0 a0_1 a0_2 a0_3 a0_4 a0_5 a0_6 a0_7 a0_8 a0_9 a0_10 a0_11 a0_12 a0_13 l0_14)else(if a0_0=2 then(spec_l4Constant.j0 k a0_0 (a0_0==2) a0_0 a0_1 a0_2 a0_3 a0_4 a0_5 a0_6 a0_7 a0_8 a0_9 a0_10 a0_11 a0_12 a0_13 l0_14)else(if a0_0=3 then(spec_l4Constant.j0 k a0_0 (a0_0==3) a0_0 a0_1 a0_2 a0_3 a0_4 a0_5 a0_6 a0_7 a0_8 a0_9 a0_10 a0_11 a0_12 a0_13 l0_14)else(spec_l4Constant.j0 k a0_0 (a0_0==4) a0_0 a0_1 a0_2 a0_3 a0_4 a0_5 a0_6 a0_7 a0_8 a0_9 a0_10 a0_11 a0_12 a0_13 l0_14)))

set_option maxHeartbeats 8000000 in
set_option maxRecDepth 100000 in
theorem spec_l4Constant.calls (k:Nat) (a0_0:Int) (a0_1:ByteArray) (a0_2:Bool) (a0_3:Int) (a0_4:Int) (a0_5:Int) (a0_6:Int) (a0_7:Bool) (a0_8:Bool) (a0_9:Int) (a0_10:Int) (a0_11:Bool) (a0_12:Bool) (a0_13:Int) (A0_14:Option Addr) (c0_14:Nat) (l0_14:List (S70)) (r:Bool) (w:World) (hr0_14:Kd.C k70 w A0_14 l0_14.length l0_14) (hc0_14:l0_14.length≤c0_14) (h:spec_l4Constant.f k a0_0 a0_1 a0_2 a0_3 a0_4 a0_5 a0_6 a0_7 a0_8 a0_9 a0_10 a0_11 a0_12 a0_13 l0_14=some r):
  Calls Tryz.prog 119 #[.agg #[.int .i64 a0_0,.string a0_1,.bool a0_2,.int .i64 a0_3,.int .i64 a0_4,.int .i64 a0_5,.int .i64 a0_6,.bool a0_7,.bool a0_8,.int .i64 a0_9,.int .i64 a0_10,.bool a0_11,.bool a0_12,.int .i64 a0_13,.slice A0_14 l0_14.length c0_14]] w fun e w'=>e= .returned (.bool r)∧Below w.heap.size w w':=by
 have hu70:=Tryz.underlying70
 have HR0_14:=Aside0.mk hr0_14
 have HC0_14:=Aside0.mk hc0_14
 clear hr0_14 hc0_14
 have HB:=Aside0.mk (Below.refl w.heap.size w)
 have H:(if a0_0=1 then(spec_l4Constant.j0 k a0_0 (a0_0==1) a0_0 a0_1 a0_2 a0_3 a0_4 a0_5 a0_6 a0_7 a0_8 a0_9 a0_10 a0_11 a0_12 a0_13 l0_14)else(if a0_0=2 then(spec_l4Constant.j0 k a0_0 (a0_0==2) a0_0 a0_1 a0_2 a0_3 a0_4 a0_5 a0_6 a0_7 a0_8 a0_9 a0_10 a0_11 a0_12 a0_13 l0_14)else(if a0_0=3 then(spec_l4Constant.j0 k a0_0 (a0_0==3) a0_0 a0_1 a0_2 a0_3 a0_4 a0_5 a0_6 a0_7 a0_8 a0_9 a0_10 a0_11 a0_12 a0_13 l0_14)else(spec_l4Constant.j0 k a0_0 (a0_0==4) a0_0 a0_1 a0_2 a0_3 a0_4 a0_5 a0_6 a0_7 a0_8 a0_9 a0_10 a0_11 a0_12 a0_13 l0_14))))=some r:=h
 clear h
 have HC2:=Aside0.mk H
 clear H
 go_enter Tryz.func119,Tryz.ntmps119
 go_upto_if 6 with (first|((with_reducible refine z15q (N:=1) rfl ?_);refine z13q ?hg (N:=1) ?hd (cs:=#[.int .i64 a0_0,.string a0_1,.bool a0_2,.int .i64 a0_3,.int .i64 a0_4,.int .i64 a0_5,.int .i64 a0_6,.bool a0_7,.bool a0_8,.int .i64 a0_9,.int .i64 a0_10,.bool a0_11,.bool a0_12,.int .i64 a0_13,.slice A0_14 l0_14.length c0_14]) (t:=70) ?hr ?_;(case hd=>rfl);(case hg=>rfl);(case hr=>first|(go_simp;done)|(go_simp;rfl));intro gb319 hg w3 hbox hb;have n0_:=Aside0.mk (z5q (ibh HB.out) hb);have n1_:=Aside0.mk (hbox);have n2_:=Aside0.mk ((by rw [hg];exact(z6q (ibh HB.out)):w.heap.size≤gb319));have n3_:=Aside0.mk ((by rw [hg];exact(z6q (ibh HB.out)):w.heap.size≤gb319));clear HB;have HB:=n0_;have BK319:=n1_;have GW319:=n2_;have GE319:=n3_;clear n0_ n1_ n2_ n3_;clear hb hbox hg;obtain⟨hcz4_0,hcz4_1,hcz4_2,hcz4_3,hcz4_4,hcz4_5,hcz4_6,hcz4_7,hcz4_8,hcz4_9,hcz4_10,hcz4_11,hcz4_12,hcz4_13,hcz4_14,hfz4_0,hfz4_1,hfz4_2,hfz4_3,hfz4_4,hfz4_5,hfz4_6,hfz4_7,hfz4_8,hfz4_9,hfz4_10,hfz4_11,hfz4_12,hfz4_13,hfz4_14⟩:=cr15 (w:=w3) (g:=gb319) BK319.out))
 (try simp only [Act.put,setIfInBounds_toArray,set_cons_zero,set_cons_succ])
 go_cut [6] (fun v6 wc=>∃ (kq:Nat) (x6_1:Bool),v6= .bool x6_1∧Aside0 (spec_l4Constant.j0 kq a0_0 x6_1 a0_0 a0_1 a0_2 a0_3 a0_4 a0_5 a0_6 a0_7 a0_8 a0_9 a0_10 a0_11 a0_12 a0_13 l0_14=some r)∧Aside0 (kq≤k)∧Aside0 (wc.heap[gb319]? =some (.cells #[.int .i64 a0_0,.string a0_1,.bool a0_2,.int .i64 a0_3,.int .i64 a0_4,.int .i64 a0_5,.int .i64 a0_6,.bool a0_7,.bool a0_8,.int .i64 a0_9,.int .i64 a0_10,.bool a0_11,.bool a0_12,.int .i64 a0_13,(.slice A0_14 l0_14.length c0_14)] 70 (0,0)))∧Aside0 (Below w.heap.size w wc))
 case first=>
  have H:=HC2.out
  clear HC2
  by_cases c5:a0_0=1
  ·rw [if_pos c5]at H
   have c5b0:(a0_0==1)=true:=beq_iff_eq.mpr c5
   have c5b1:(a0_0 !=1)=false:=bne_eq_false_iff_eq.mpr c5
   clear c5
   (first|rw [c5b0]|(simp only [i64_w,i32_w];rw [c5b0])|skip)
   have H':=Aside0.mk H
   clear H
   go_wp2
   go_meet
   case rel=>exact⟨_,((a0_0==1)),(by first|rfl|(simp;done)|(simp [*];done)|(simp;unfold wrap64;omega)),H',⟨by first|omega|exact Nat.le_refl _⟩,⟨by(with_reducible repeat(first|refine z14q ?_ _|refine z16q ?_|refine z10q ?_ _));exact BK319.out⟩,⟨by repeat(first|(with_reducible first|exact HB.out|apply z2q|apply z3q|apply z4q|refine z7q ?_ GE319.out)|exact HB.out)⟩⟩
  ·rw [if_neg c5]at H
   have c5b0:(a0_0==1)=false:=beq_eq_false_iff_ne.mpr c5
   have c5b1:(a0_0 !=1)=true:=bne_iff_ne.mpr c5
   (first|rw [c5b0]|(simp only [i64_w,i32_w];rw [c5b0])|skip)
   by_cases c6:a0_0=2
   ·rw [if_pos c6]at H
    have c6b0:(a0_0==2)=true:=beq_iff_eq.mpr c6
    have c6b1:(a0_0 !=2)=false:=bne_eq_false_iff_eq.mpr c6
    clear c6
    have H':=Aside0.mk H
    clear H
    go_wp2
    go_meet
    case rel=>exact⟨_,((a0_0==2)),(by first|rfl|(simp;done)|(simp [*];done)|(simp;unfold wrap64;omega)),H',⟨by first|omega|exact Nat.le_refl _⟩,⟨by(with_reducible repeat(first|refine z14q ?_ _|refine z16q ?_|refine z10q ?_ _));exact BK319.out⟩,⟨by repeat(first|(with_reducible first|exact HB.out|apply z2q|apply z3q|apply z4q|refine z7q ?_ GE319.out)|exact HB.out)⟩⟩
   ·rw [if_neg c6]at H
    have c6b0:(a0_0==2)=false:=beq_eq_false_iff_ne.mpr c6
    have c6b1:(a0_0 !=2)=true:=bne_iff_ne.mpr c6
    by_cases c7:a0_0=3
    ·rw [if_pos c7]at H
     have c7b0:(a0_0==3)=true:=beq_iff_eq.mpr c7
     have c7b1:(a0_0 !=3)=false:=bne_eq_false_iff_eq.mpr c7
     clear c7
     have H':=Aside0.mk H
     clear H
     go_wp2
     go_meet
     case rel=>exact⟨_,((a0_0==3)),(by first|rfl|(simp;done)|(simp [*];done)|(simp;unfold wrap64;omega)),H',⟨by first|omega|exact Nat.le_refl _⟩,⟨by(with_reducible repeat(first|refine z14q ?_ _|refine z16q ?_|refine z10q ?_ _));exact BK319.out⟩,⟨by repeat(first|(with_reducible first|exact HB.out|apply z2q|apply z3q|apply z4q|refine z7q ?_ GE319.out)|exact HB.out)⟩⟩
    ·rw [if_neg c7]at H
     have c7b0:(a0_0==3)=false:=beq_eq_false_iff_ne.mpr c7
     have c7b1:(a0_0 !=3)=true:=bne_iff_ne.mpr c7
     have H':=Aside0.mk H
     clear H
     go_wp2
     go_meet
     case rel=>exact⟨_,((a0_0==4)),(by first|rfl|(simp;done)|(simp [*];done)|(simp;unfold wrap64;omega)),H',⟨by first|omega|exact Nat.le_refl _⟩,⟨by(with_reducible repeat(first|refine z14q ?_ _|refine z16q ?_|refine z10q ?_ _));exact BK319.out⟩,⟨by repeat(first|(with_reducible first|exact HB.out|apply z2q|apply z3q|apply z4q|refine z7q ?_ GE319.out)|exact HB.out)⟩⟩
 case rest=>
  clear HC2
  try clear c1
  try clear p2
  try clear c5
  try clear c5b0
  try clear c5b1
  try clear c6
  try clear c6b0
  try clear c6b1
  try clear c7
  try clear c7b0
  try clear c7b1
  try clear hcz4_0
  try clear hcz4_1
  try clear hcz4_10
  try clear hcz4_11
  try clear hcz4_12
  try clear hcz4_13
  try clear hcz4_14
  try clear hcz4_2
  try clear hcz4_3
  try clear hcz4_4
  try clear hcz4_5
  try clear hcz4_6
  try clear hcz4_7
  try clear hcz4_8
  try clear hcz4_9
  try clear hfz4_0
  try clear hfz4_1
  try clear hfz4_10
  try clear hfz4_11
  try clear hfz4_12
  try clear hfz4_13
  try clear hfz4_14
  try clear hfz4_2
  try clear hfz4_3
  try clear hfz4_4
  try clear hfz4_5
  try clear hfz4_6
  try clear hfz4_7
  try clear hfz4_8
  try clear hfz4_9
  obtain⟨kq,x6_1,rfl,HA,HJ1,BK319,HB⟩:=hcut
  cases kq with
  |zero=>exact absurd HA.out (by simp [spec_l4Constant.j0])
  |succ kj1=>
   have H:=HA.out
   clear HA
   simp only [spec_l4Constant.j0]at H
   by_cases c8:x6_1=true
   ·subst c8
    have H1:(some true)=some r:=by rw [if_pos rfl]at H;exact H
    clear H
    have H:=H1
    clear H1
    obtain rfl:=Option.some.inj H
    go_wp2
    go_ret
    exact⟨by first|rfl|(simp [errW_none,errW_some]<;>rfl)|(simp [*,errW_none,errW_some]<;>rfl),by repeat(first|(with_reducible first|exact HB.out|apply z2q|apply z3q|apply z4q|refine z7q ?_ GE319.out)|exact HB.out)⟩
   ·replace c8:=Bool.eq_false_iff.mpr c8
    subst c8
    have H1:(if a0_0=8 then(if(l0_14.length:Int)=1 then(if 0<(l0_14.length:Int)then(some (((rd_T70 l0_14 0).f0.f0)==1))else(none))else(some false))else(some false))=some r:=by rw [if_neg (show ¬ (false=true)by decide)]at H;exact H
    clear H
    have H:=H1
    clear H1
    by_cases c9:a0_0=8
    ·rw [if_pos c9]at H
     have c9b0:(a0_0==8)=true:=beq_iff_eq.mpr c9
     have c9b1:(a0_0 !=8)=false:=bne_eq_false_iff_eq.mpr c9
     clear c9
     by_cases c10:(l0_14.length:Int)=1
     ·rw [if_pos c10]at H
      have c10b0:((l0_14.length:Int)==1)=true:=beq_iff_eq.mpr c10
      have c10b1:((l0_14.length:Int) !=1)=false:=bne_eq_false_iff_eq.mpr c10
      clear c10
      by_cases c11:0<(l0_14.length:Int)
      ·rw [if_pos c11]at H
       have c11b0:decide (0<(l0_14.length:Int))=true:=decide_eq_true c11
       (try(have c11b9320_14:=c11b0;simp only [hl320_14]at c11b9320_14))
       have c11b1:decide (0<l0_14.length)=true:=decide_eq_true (by omega)
       clear c11
       obtain rfl:=Option.some.inj H
       obtain⟨hcz12_0,hcz12_1,hcz12_2,hcz12_3,hcz12_4,hcz12_5,hcz12_6,hcz12_7,hcz12_8,hcz12_9,hcz12_10,hcz12_11,hcz12_12,hcz12_13,hcz12_14,hfz12_0,hfz12_1,hfz12_2,hfz12_3,hfz12_4,hfz12_5,hfz12_6,hfz12_7,hfz12_8,hfz12_9,hfz12_10,hfz12_11,hfz12_12,hfz12_13,hfz12_14⟩:=cr15 (w:=wc) (g:=gb319) BK319.out
       have p320:0≤(0:Int):=(by omega)
       have q320:0<(l0_14.length:Int):=of_decide_eq_true (by first|(with_reducible assumption)|assumption)
       obtain⟨ad320,A320_14,c320_14,e320,hx320_0,hx320_1,hx320_2,hx320_3,hx320_4,hx320_5,hx320_6,hx320_7,hx320_8,hx320_9,hx320_10,hx320_11,hx320_12,hx320_13,hx320_14,hl320_14,hi320_14⟩:=at_T70 HR0_14.out 0 p320 q320
       cases e320
       have qi320:(0<l0_14.length)=True:=eq_true (by omega)
       (try rw [show((0:Int)).toNat=0 from rfl]at hx320_0)
       (try rw [show 0*15=0 from rfl]at hx320_0)
       (try rw [Addr.add_zero']at hx320_0)
       (try rw [show((0:Int)).toNat=0 from rfl]at hx320_1)
       (try rw [show 0*15=0 from rfl]at hx320_1)
       (try rw [Addr.add_zero']at hx320_1)
       (try rw [show((0:Int)).toNat=0 from rfl]at hx320_2)
       (try rw [show 0*15=0 from rfl]at hx320_2)
       (try rw [Addr.add_zero']at hx320_2)
       (try rw [show((0:Int)).toNat=0 from rfl]at hx320_3)
       (try rw [show 0*15=0 from rfl]at hx320_3)
       (try rw [Addr.add_zero']at hx320_3)
       (try rw [show((0:Int)).toNat=0 from rfl]at hx320_4)
       (try rw [show 0*15=0 from rfl]at hx320_4)
       (try rw [Addr.add_zero']at hx320_4)
       (try rw [show((0:Int)).toNat=0 from rfl]at hx320_5)
       (try rw [show 0*15=0 from rfl]at hx320_5)
       (try rw [Addr.add_zero']at hx320_5)
       (try rw [show((0:Int)).toNat=0 from rfl]at hx320_6)
       (try rw [show 0*15=0 from rfl]at hx320_6)
       (try rw [Addr.add_zero']at hx320_6)
       (try rw [show((0:Int)).toNat=0 from rfl]at hx320_7)
       (try rw [show 0*15=0 from rfl]at hx320_7)
       (try rw [Addr.add_zero']at hx320_7)
       (try rw [show((0:Int)).toNat=0 from rfl]at hx320_8)
       (try rw [show 0*15=0 from rfl]at hx320_8)
       (try rw [Addr.add_zero']at hx320_8)
       (try rw [show((0:Int)).toNat=0 from rfl]at hx320_9)
       (try rw [show 0*15=0 from rfl]at hx320_9)
       (try rw [Addr.add_zero']at hx320_9)
       (try rw [show((0:Int)).toNat=0 from rfl]at hx320_10)
       (try rw [show 0*15=0 from rfl]at hx320_10)
       (try rw [Addr.add_zero']at hx320_10)
       (try rw [show((0:Int)).toNat=0 from rfl]at hx320_11)
       (try rw [show 0*15=0 from rfl]at hx320_11)
       (try rw [Addr.add_zero']at hx320_11)
       (try rw [show((0:Int)).toNat=0 from rfl]at hx320_12)
       (try rw [show 0*15=0 from rfl]at hx320_12)
       (try rw [Addr.add_zero']at hx320_12)
       (try rw [show((0:Int)).toNat=0 from rfl]at hx320_13)
       (try rw [show 0*15=0 from rfl]at hx320_13)
       (try rw [Addr.add_zero']at hx320_13)
       (try rw [show((0:Int)).toNat=0 from rfl]at hx320_14)
       (try rw [show 0*15=0 from rfl]at hx320_14)
       (try rw [Addr.add_zero']at hx320_14)
       replace hx320_0:=(hbc HB.out hx320_0).trans hx320_0
       replace hx320_1:=(hbc HB.out hx320_1).trans hx320_1
       replace hx320_2:=(hbc HB.out hx320_2).trans hx320_2
       replace hx320_3:=(hbc HB.out hx320_3).trans hx320_3
       replace hx320_4:=(hbc HB.out hx320_4).trans hx320_4
       replace hx320_5:=(hbc HB.out hx320_5).trans hx320_5
       replace hx320_6:=(hbc HB.out hx320_6).trans hx320_6
       replace hx320_7:=(hbc HB.out hx320_7).trans hx320_7
       replace hx320_8:=(hbc HB.out hx320_8).trans hx320_8
       replace hx320_9:=(hbc HB.out hx320_9).trans hx320_9
       replace hx320_10:=(hbc HB.out hx320_10).trans hx320_10
       replace hx320_11:=(hbc HB.out hx320_11).trans hx320_11
       replace hx320_12:=(hbc HB.out hx320_12).trans hx320_12
       replace hx320_13:=(hbc HB.out hx320_13).trans hx320_13
       replace hx320_14:=(hbc HB.out hx320_14).trans hx320_14
       have HR320_14:=Aside0.mk hi320_14
       have HC320_14:=Aside0.mk hl320_14
       clear hi320_14 hl320_14
       replace p320:=eq_true p320
       replace q320:=eq_true q320
       go_wp2
       go_ret
       exact⟨by first|rfl|(simp [errW_none,errW_some]<;>rfl)|(simp [*,errW_none,errW_some]<;>rfl),by repeat(first|(with_reducible first|exact HB.out|apply z2q|apply z3q|apply z4q|refine z7q ?_ GE319.out)|exact HB.out)⟩
      ·rw [if_neg c11]at H
       exact absurd H (by simp)
     ·rw [if_neg c10]at H
      have c10b0:((l0_14.length:Int)==1)=false:=beq_eq_false_iff_ne.mpr c10
      have c10b1:((l0_14.length:Int) !=1)=true:=bne_iff_ne.mpr c10
      obtain rfl:=Option.some.inj H
      obtain⟨hcz13_0,hcz13_1,hcz13_2,hcz13_3,hcz13_4,hcz13_5,hcz13_6,hcz13_7,hcz13_8,hcz13_9,hcz13_10,hcz13_11,hcz13_12,hcz13_13,hcz13_14,hfz13_0,hfz13_1,hfz13_2,hfz13_3,hfz13_4,hfz13_5,hfz13_6,hfz13_7,hfz13_8,hfz13_9,hfz13_10,hfz13_11,hfz13_12,hfz13_13,hfz13_14⟩:=cr15 (w:=wc) (g:=gb319) BK319.out
      go_wp2
      go_ret
      exact⟨by first|rfl|(simp [errW_none,errW_some]<;>rfl)|(simp [*,errW_none,errW_some]<;>rfl),by repeat(first|(with_reducible first|exact HB.out|apply z2q|apply z3q|apply z4q|refine z7q ?_ GE319.out)|exact HB.out)⟩
    ·rw [if_neg c9]at H
     have c9b0:(a0_0==8)=false:=beq_eq_false_iff_ne.mpr c9
     have c9b1:(a0_0 !=8)=true:=bne_iff_ne.mpr c9
     obtain rfl:=Option.some.inj H
     go_wp2
     go_ret
     exact⟨by first|rfl|(simp [errW_none,errW_some]<;>rfl)|(simp [*,errW_none,errW_some]<;>rfl),by repeat(first|(with_reducible first|exact HB.out|apply z2q|apply z3q|apply z4q|refine z7q ?_ GE319.out)|exact HB.out)⟩



/-! ### spec_l4Right: function 103 -/
/- over spec_GoodDec.f spec_GoodRef.f spec_l4Bare.f spec_l4Printed.f spec_l4Errors.f spec_l4In.f spec_l4Ops.f spec_l4Name.f spec_l4Upper.f spec_l2Number.f spec_l1Num.f spec_l4Constant.f -/

/-! plain facts on whole numbers -/

theorem wrap_id {x:Int} (h1: -9223372036854775808≤x) (h2:x≤9223372036854775807):wrap64 x=x:=by
 unfold wrap64;omega

theorem td_pos {a b:Int} (h:0≤a):a.tdiv b=a / b:=Int.tdiv_eq_ediv_of_nonneg h

theorem tm_pos {a b:Int} (h:0≤a):a.tmod b=a % b:=Int.tmod_eq_emod_of_nonneg h

/-- Every byte of a text is printable. -/
def printB (s:ByteArray):Bool:=(bytesOf s).all fun c=>decide (32≤c∧c≤126)

theorem bt_get (s:ByteArray) (i:Nat) (h:i<s.size):(bytesOf s)[i]? =some (bt s i):=by
 rw [←rd_bytesOf]
 unfold rd
 rw [List.getD_eq_getElem?_getD,Int.toNat_natCast]
 rw [List.getElem?_eq_getElem (by rw [bytesOf_length];exact h)];rfl

/-- A loop that asks each byte of a text, and what it comes to. -/
theorem loop_bytes {F:Nat→Int→Option Bool} (s:ByteArray) (hs:s.size≤9223372036854775806) (p:Int→Bool) (b:Bool)
  (hstep:∀ (k:Nat) (i:Int),0≤i→i<s.size→F (k+1) i=if p (bt s i)then F k (i+1)else some false)
  (hend:∀ k,F (k+1) (s.size:Int)=some b):∀ (d k:Nat) (i:Nat),i+d=s.size→d<k→F k (i:Int)=some (((bytesOf s).drop i).all p && b):=by
 intro d
 induction d with
 |zero=>
  intro k i hi hk
  obtain⟨k,rfl⟩:∃ m,k=m+1:=⟨k-1,by omega⟩
  obtain rfl:i=s.size:=by omega
  rw [hend,List.drop_of_length_le (by rw [bytesOf_length];exact Nat.le_refl _)];rfl
 |succ d ih=>
  intro k i hi hk
  obtain⟨k,rfl⟩:∃ m,k=m+1:=⟨k-1,by omega⟩
  have hlt:i<(bytesOf s).length:=by rw [bytesOf_length];omega
  rw [hstep k i (by omega) (by omega),List.drop_eq_getElem_cons hlt,List.all_cons]
  have e:(bytesOf s)[i]=bt s i:=by
   have:=bt_get s i (by omega)
   rw [List.getElem?_eq_getElem hlt]at this
   exact Option.some.inj this
  rw [e]
  cases hp:p (bt s i)
  ·simp
  ·rw [if_pos rfl,show((i:Int)+1)=((i+1:Nat):Int)from by omega,ih k (i+1) (by omega) (by omega)];simp


/-- A number's text. -/
def txt (n:Int):ByteArray:=⟨(Lib.itoa n).toArray⟩


def goodDecB (n:Bool) (d e:Int):Bool:=decide ((n=false∧d=0∧e=0)∨(1≤d∧d≤999999999999999∧¬ Int.tmod d 10=0∧ -300≤e∧e≤300))


def goodRefB (r c:Int):Bool:=decide (1≤r∧r≤1000∧1≤c∧c≤200)


/-- Rounds enough for any text. -/
def NK:Nat:=1048600

def erL:List ByteArray:= [⟨#[35,78,85,76,76,33]⟩,⟨#[35,68,73,86,47,48,33]⟩,⟨#[35,86,65,76,85,69,33]⟩,⟨#[35,82,69,70,33]⟩,⟨#[35,78,65,77,69,63]⟩,⟨#[35,78,85,77,33]⟩,⟨#[35,78,47,65]⟩,⟨#[35,83,80,73,76,76,33]⟩,⟨#[35,67,89,67,76,69,33]⟩]

def erB (t:ByteArray):Bool:=erL.any fun e=>e.toList==t.toList

def opL:List ByteArray:= [⟨#[94]⟩,⟨#[42]⟩,⟨#[47]⟩,⟨#[43]⟩,⟨#[45]⟩,⟨#[38]⟩,⟨#[61]⟩,⟨#[60]⟩,⟨#[62]⟩,⟨#[60,61]⟩,⟨#[62,61]⟩,⟨#[60,62]⟩]

def opB (t:ByteArray):Bool:=opL.any fun e=>e.toList==t.toList

def zD (n:Bool) (d x:Int):Bool:= !n && (d==0 && x==0)

def zR (r c:Int) (p q:Bool):Bool:=r==0 && (c==0 && (!p && !q))

def emp (t:ByteArray):Bool:=t.toList==([]:List UInt8)

/-- An array's rows: so many, told so, and its kids go by them. -/
def arB (v:Int) (t:ByteArray) (m:Int):Bool:=decide (1≤v) && (decide (v≤20) && ((txt v).toList==t.toList && (decide (1≤m) && (decide (m≤100) && Int.tmod m v==0))))

/-- What a node's own fields say (nm: its text is a name; ar: it is a good array's). -/
def nodeB (nm ar:Bool) (k:Int) (t:ByteArray) (n:Bool) (d x r c:Int) (p q:Bool) (r2 c2:Int) (p2 q2:Bool) (m:Int):Bool:=
 if k=1 then m==0 && (goodDecB n d x && (!n && (emp t && (zR r c p q && zR r2 c2 p2 q2))))
 else if k=5 then m==0 && (goodRefB r c && (emp t && (zD n d x && zR r2 c2 p2 q2)))
 else if k=6 then m==0 && (goodRefB r c && (goodRefB r2 c2 && (emp t && zD n d x)))
 else(zD n d x && (zR r c p q && zR r2 c2 p2 q2)) && (
  if k=2 then m==0 && (printB t && decide ((t.size:Int)≤200))
  else if k=3 then m==0 && ((t.toList==([84,82,85,69]:List UInt8)) || (t.toList==([70,65,76,83,69]:List UInt8)))
  else if k=4 then m==0 && erB t
  else if k=7 then m==0 && nm
  else if k=13 then m==0 && emp t
  else if k=8∨k=9 then m==1 && emp t
  else if k=10 then m==2 && opB t
  else if k=11 then decide (0≤m) && (decide (m≤30) && (nm && ((upS t).toList==t.toList)))
  else if k=12 then ar else false)

theorem nodeB_1 (nm ar:Bool) (t:ByteArray) (n:Bool) (d x r c:Int) (p q:Bool) (r2 c2:Int) (p2 q2:Bool) (m:Int):nodeB nm ar 1 t n d x r c p q r2 c2 p2 q2 m=(m==0 && (goodDecB n d x && (!n && (emp t && (zR r c p q && zR r2 c2 p2 q2))))):=rfl

theorem nodeB_2 (nm ar:Bool) (t:ByteArray) (n:Bool) (d x r c:Int) (p q:Bool) (r2 c2:Int) (p2 q2:Bool) (m:Int):nodeB nm ar 2 t n d x r c p q r2 c2 p2 q2 m=((zD n d x && (zR r c p q && zR r2 c2 p2 q2)) && (m==0 && (printB t && decide ((t.size:Int)≤200)))):=rfl

theorem nodeB_3 (nm ar:Bool) (t:ByteArray) (n:Bool) (d x r c:Int) (p q:Bool) (r2 c2:Int) (p2 q2:Bool) (m:Int):nodeB nm ar 3 t n d x r c p q r2 c2 p2 q2 m=((zD n d x && (zR r c p q && zR r2 c2 p2 q2)) && (m==0 && ((t.toList==([84,82,85,69]:List UInt8)) || (t.toList==([70,65,76,83,69]:List UInt8))))):=rfl

theorem nodeB_4 (nm ar:Bool) (t:ByteArray) (n:Bool) (d x r c:Int) (p q:Bool) (r2 c2:Int) (p2 q2:Bool) (m:Int):nodeB nm ar 4 t n d x r c p q r2 c2 p2 q2 m=((zD n d x && (zR r c p q && zR r2 c2 p2 q2)) && (m==0 && erB t)):=rfl

theorem nodeB_5 (nm ar:Bool) (t:ByteArray) (n:Bool) (d x r c:Int) (p q:Bool) (r2 c2:Int) (p2 q2:Bool) (m:Int):nodeB nm ar 5 t n d x r c p q r2 c2 p2 q2 m=(m==0 && (goodRefB r c && (emp t && (zD n d x && zR r2 c2 p2 q2)))):=rfl

theorem nodeB_6 (nm ar:Bool) (t:ByteArray) (n:Bool) (d x r c:Int) (p q:Bool) (r2 c2:Int) (p2 q2:Bool) (m:Int):nodeB nm ar 6 t n d x r c p q r2 c2 p2 q2 m=(m==0 && (goodRefB r c && (goodRefB r2 c2 && (emp t && zD n d x)))):=rfl

theorem nodeB_7 (nm ar:Bool) (t:ByteArray) (n:Bool) (d x r c:Int) (p q:Bool) (r2 c2:Int) (p2 q2:Bool) (m:Int):nodeB nm ar 7 t n d x r c p q r2 c2 p2 q2 m=((zD n d x && (zR r c p q && zR r2 c2 p2 q2)) && (m==0 && nm)):=rfl

theorem nodeB_8 (nm ar:Bool) (t:ByteArray) (n:Bool) (d x r c:Int) (p q:Bool) (r2 c2:Int) (p2 q2:Bool) (m:Int):nodeB nm ar 8 t n d x r c p q r2 c2 p2 q2 m=((zD n d x && (zR r c p q && zR r2 c2 p2 q2)) && (m==1 && emp t)):=rfl

theorem nodeB_9 (nm ar:Bool) (t:ByteArray) (n:Bool) (d x r c:Int) (p q:Bool) (r2 c2:Int) (p2 q2:Bool) (m:Int):nodeB nm ar 9 t n d x r c p q r2 c2 p2 q2 m=((zD n d x && (zR r c p q && zR r2 c2 p2 q2)) && (m==1 && emp t)):=rfl

theorem nodeB_10 (nm ar:Bool) (t:ByteArray) (n:Bool) (d x r c:Int) (p q:Bool) (r2 c2:Int) (p2 q2:Bool) (m:Int):nodeB nm ar 10 t n d x r c p q r2 c2 p2 q2 m=((zD n d x && (zR r c p q && zR r2 c2 p2 q2)) && (m==2 && opB t)):=rfl

theorem nodeB_11 (nm ar:Bool) (t:ByteArray) (n:Bool) (d x r c:Int) (p q:Bool) (r2 c2:Int) (p2 q2:Bool) (m:Int):nodeB nm ar 11 t n d x r c p q r2 c2 p2 q2 m=((zD n d x && (zR r c p q && zR r2 c2 p2 q2)) && (decide (0≤m) && (decide (m≤30) && (nm && ((upS t).toList==t.toList))))):=rfl

theorem nodeB_12 (nm ar:Bool) (t:ByteArray) (n:Bool) (d x r c:Int) (p q:Bool) (r2 c2:Int) (p2 q2:Bool) (m:Int):nodeB nm ar 12 t n d x r c p q r2 c2 p2 q2 m=((zD n d x && (zR r c p q && zR r2 c2 p2 q2)) && (ar)):=rfl

theorem nodeB_13 (nm ar:Bool) (t:ByteArray) (n:Bool) (d x r c:Int) (p q:Bool) (r2 c2:Int) (p2 q2:Bool) (m:Int):nodeB nm ar 13 t n d x r c p q r2 c2 p2 q2 m=((zD n d x && (zR r c p q && zR r2 c2 p2 q2)) && (m==0 && emp t)):=rfl


theorem bcell {W w1:World} (hb:Below W.heap.size W w1):(∀ b o,b<W.heap.size→w1.cell? ⟨b,o,none⟩=W.cell? ⟨b,o,none⟩)∧(∀ b o,b<W.heap.size→w1.frozen? ⟨b,o,none⟩=W.frozen? ⟨b,o,none⟩):=
 ⟨fun b o h=>hb.cell (p:=⟨b,o,none⟩) h,fun b o h=>hb.frozen (p:=⟨b,o,none⟩) h⟩


/-- A kid that may stand in an array. -/
def constB (x:S70):Bool:=decide (x.f0.f0=1∨x.f0.f0=2∨x.f0.f0=3∨x.f0.f0=4) || (x.f0.f0==8 && (x.f1.length==1 && (rd_T70 x.f1 0).f0.f0==1))

def spec_l4Right.f (a0_0:Int) (a0_1:ByteArray) (a0_2:Bool) (a0_3:Int) (a0_4:Int) (a0_5:Int) (a0_6:Int) (a0_7:Bool) (a0_8:Bool) (a0_9:Int) (a0_10:Int) (a0_11:Bool) (a0_12:Bool) (a0_13:Int) (l0_14:List (S70)) (a1:Bool):Option (Bool):=
 if a0_1.size≤1048576 then
  (if a0_0=7∨a0_0=11 then spec_l4Name.f NK a0_1 else some false).bind fun nm=>(if a0_0=12 then spec_l2Number.f NK a0_1 else some 0).bind fun v=>
   some (a0_13==(l0_14.length:Int) && ((!(a0_0==13) || a1) && nodeB nm (arB v a0_1 a0_13 && l0_14.all constB) a0_0 a0_1 a0_2 a0_3 a0_4 a0_5 a0_6 a0_7 a0_8 a0_9 a0_10 a0_11 a0_12 a0_13))
 else none

theorem specGoodDec_is (n:Bool) (d e:Int):spec_GoodDec.f n d e=some (goodDecB n d e):=by
 unfold spec_GoodDec.f goodDecB
 by_cases h0:d=0
 ·subst h0;rw [if_pos rfl]
  cases n<;>by_cases he:e=0<;>simp [he]
 ·rw [if_neg h0]
  by_cases h1:d > 0
  ·by_cases h2:d<1000000000000000
   ·have h2':d≤999999999999999:=by omega
    have h1':1≤d:=by omega
    by_cases h3:Int.tmod d 10=0
    ·simp [h0,h1,h2,h3]
    ·by_cases h4:e≥ -300<;>by_cases h5:e≤300<;>simp [h0,h1,h2,h3,h4,h5,h1',h2']
   ·have h2':¬ d≤999999999999999:=by omega
    simp [h0,h1,h2,h2']
  ·have h1':¬ 1≤d:=by omega
   simp [h0,h1,h1']


theorem specGoodRef_is (r c:Int) (a b:Bool):spec_GoodRef.f r c a b=some (goodRefB r c):=by
 unfold spec_GoodRef.f goodRefB
 by_cases h1:1≤r<;>by_cases h2:r≤1000<;>by_cases h3:1≤c<;>by_cases h4:c≤200<;>simp [h1,h2,h3,h4]


theorem specPrinted_is (s:ByteArray) (hs:s.size≤1048576) (m:Int) (k:Nat) (hk:s.size<k):spec_l4Printed.f k s m=some (printB s && decide ((s.size:Int)≤m)):=by
 unfold spec_l4Printed.f printB
 have h:=loop_bytes (F:=fun k i=>spec_l4Printed.l0 k s m i) s (by omega) (fun c=>decide (32≤c∧c≤126)) (decide ((s.size:Int)≤m)) ?_ ?_ s.size k 0 (by omega) hk
 ·simpa using h
 ·intro k i h0 h1
  simp only [spec_l4Printed.l0]
  rw [if_pos h1,if_pos h0,wrap_id (x:=i+1) (by omega) (by omega)]
  by_cases c1:bt s i<32
  ·rw [if_pos c1,if_neg (by simp;omega)]
  ·by_cases c2:bt s i > 126
   ·rw [if_neg c1,if_pos c2,if_neg (by simp;omega)]
   ·rw [if_neg c1,if_neg c2,if_pos (by simp;omega)]
 ·intro k
  simp only [spec_l4Printed.l0]
  rw [if_neg (by omega)]


theorem specIn_l0 (s:ByteArray) (L:List ByteArray) (hL:L.length≤1000):∀ (d k i:Nat),i+d=L.length→d<k→spec_l4In.l0 k s L (L.length:Int) (i:Int)=some ((L.drop i).any fun e=>e.toList==s.toList)
 |0,k,i,h,hk=>by
  obtain⟨k,rfl⟩:∃ m,k=m+1:=⟨k-1,by omega⟩
  rw [spec_l4In.l0,if_neg (by omega),List.drop_of_length_le (by omega)];rfl
 |d+1,k,i,h,hk=>by
  obtain⟨k,rfl⟩:∃ m,k=m+1:=⟨k-1,by omega⟩
  have hlt:i<L.length:=by omega
  have hrd:rdOf ByteArray.empty L (i:Int)=L[i]'hlt:=by
   unfold rdOf;rw [Int.toNat_natCast,List.getD_eq_getElem?_getD,List.getElem?_eq_getElem hlt];rfl
  rw [spec_l4In.l0,if_pos (by omega),if_pos (by omega),if_pos (by omega),hrd,List.drop_eq_getElem_cons hlt,List.any_cons]
  by_cases he:(L[i]'hlt).toList=s.toList
  ·rw [if_pos he,he];simp
  ·rw [if_neg he,wrap_id (x:=(i:Int)+1) (by omega) (by omega),show((i:Int)+1)=((i+1:Nat):Int)from by omega,specIn_l0 s L hL d k (i+1) (by omega) (by omega)]
   rw [show((L[i]'hlt).toList==s.toList)=false from by simpa using he];rfl

theorem specIn_is (s:ByteArray) (L:List ByteArray) (hL:L.length≤100):spec_l4In.f NK L s=some (L.any fun e=>e.toList==s.toList):=by
 unfold spec_l4In.f
 have:=specIn_l0 s L (by omega) L.length NK 0 (by omega) (by unfold NK;omega)
 simpa using this

theorem specIn_gen (s:ByteArray) (L:List ByteArray) (k:Nat) (hL:L.length≤1000) (hk:L.length<k):spec_l4In.f k L s=some (L.any fun e=>e.toList==s.toList):=by
 unfold spec_l4In.f
 have:=specIn_l0 s L hL L.length k 0 (by omega) hk
 simpa using this


theorem constIs (x:S70):spec_l4Constant.f NK x.f0.f0 x.f0.f1 x.f0.f2.f0 x.f0.f2.f1 x.f0.f2.f2 x.f0.f3.f0 x.f0.f3.f1 x.f0.f3.f2 x.f0.f3.f3 x.f0.f4.f0 x.f0.f4.f1 x.f0.f4.f2 x.f0.f4.f3 x.f0.f5 x.f1=some (constB x):=by
 have e:NK=1048599+1:=rfl
 unfold spec_l4Constant.f constB
 rw [e]
 simp only [spec_l4Constant.j0]
 by_cases h1:x.f0.f0=1
 ·simp [h1]
 by_cases h2:x.f0.f0=2
 ·simp [h2]
 by_cases h3:x.f0.f0=3
 ·simp [h3]
 by_cases h4:x.f0.f0=4
 ·simp [h4]
 rw [if_neg h1,if_neg h2,if_neg h3,if_neg (by simpa using h4),decide_eq_false (by simp [h1,h2,h3,h4]),Bool.false_or]
 by_cases h8:x.f0.f0=8
 ·rw [if_pos h8,h8]
  by_cases hl:(x.f1.length:Int)=1
  ·rw [if_pos hl,if_pos (by omega),show(x.f1.length==1)=true from by simpa using (by omega:x.f1.length=1)];simp
  ·rw [if_neg hl,show(x.f1.length==1)=false from by simpa using (by omega:¬ x.f1.length=1)];simp
 ·rw [if_neg h8,show(x.f0.f0==8)=false from by simpa using h8];rfl


theorem l1Num_is (n:Int) (h1: -1000000000000000000<n) (h2:n<1000000000000000000):spec_l1Num.f n=some (txt n):=by unfold spec_l1Num.f;rw [if_pos ⟨h1,h2⟩];rfl


theorem specBare_is (k:Int) (t:ByteArray) (n:Bool) (d x r c:Int) (p q:Bool) (r2 c2:Int) (p2 q2:Bool) (m:Int):spec_l4Bare.f k t n d x r c p q r2 c2 p2 q2 m=some (zD n d x && (zR r c p q && zR r2 c2 p2 q2)):=by
 unfold spec_l4Bare.f
 by_cases h1:(!n && (d==0 && x==0))=true
 ·rw [if_pos h1]
  by_cases h2:(r==0 && (c==0 && (!p && !q)))=true
  ·rw [if_pos h2];rw [show zD n d x=true from h1,show zR r c p q=true from h2];rfl
  ·rw [if_neg h2];rw [show zD n d x=true from h1,show zR r c p q=false from Bool.eq_false_iff.mpr h2];rfl
 ·rw [if_neg h1];rw [show zD n d x=false from Bool.eq_false_iff.mpr h1];rfl


section

variable {P:Program} {md:Region.Mode} {ops:Array Oper} {Q:Exit→Act→World→Prop} {S:World→Prop}

/-- An operation whose guard leaves it out may be passed at once. -/
theorem tkS (i:Nat) {oi:Oper} {fuel:Nat} {l l':Array Bool} {a a':Act} {w:World} (h:wpAnyH P md ops Q S fuel l' a' w) (hi:ops[i]? =some oi:=by simp only [List.getElem?_toArray,List.getElem?_cons_succ,List.getElem?_cons_zero];first|done|rfl)
  (hc:(Region.noSelect ops && (Region.free md ops l i && (Region.ready md ops l).contains i))=true:=by kernel_rfl) (hw:Region.wanted oi (yielded ops a.tmps)=false:=by rfl) (hQ:∀ c a w,Q (.panic c) (a.put oi.dst undef) w→Q (.panic c) a w:=by exact fun _ _ _ h=>h) (hS:S w:=by assumption)
  (ha:a.put oi.dst undef=a':=by simp only [Act.put,setIfInBounds_toArray,set_cons_zero,set_cons_succ];first|done|rfl) (hl:l.setIfInBounds i true=l':=by simp only [setIfInBounds_toArray,set_cons_zero,set_cons_succ];first|done|rfl):wpAnyH P md ops Q S (fuel+1) l a w:=by
 rw [Bool.and_eq_true,Bool.and_eq_true]at hc
 subst ha hl
 exact wpAnyH_take hi hc.1 hc.2.1 hc.2.2 hQ (Or.inr ⟨hw,rfl⟩) hS h

/-- An operation that comes to one value may be taken at once. -/
theorem tkV (i:Nat) {oi:Oper} {v:Value} {fuel:Nat} {l l':Array Bool} {a a':Act} {w:World} (h:wpAnyH P md ops Q S fuel l' a' w) (hi:ops[i]? =some oi:=by simp only [List.getElem?_toArray,List.getElem?_cons_succ,List.getElem?_cons_zero];first|done|rfl)
  (hc:(Region.noSelect ops && (Region.free md ops l i && (Region.ready md ops l).contains i))=true:=by kernel_rfl) (hw:Region.wanted oi (yielded ops a.tmps)=true:=by rfl) (hy:∀ w,S w→(execOp a.eval oi).run P w= .ok (.value v) w:=by(intro w_ hSw;(try dsimp only at hSw);go_simp;first|done|with_reducible rfl)) (hQ:∀ c a w,Q (.panic c) (a.put oi.dst v) w→Q (.panic c) a w:=by exact fun _ _ _ h=>h) (hS:S w:=by assumption)
  (ha:a.put oi.dst v=a':=by simp only [Act.put,setIfInBounds_toArray,set_cons_zero,set_cons_succ];first|done|rfl) (hl:l.setIfInBounds i true=l':=by simp only [setIfInBounds_toArray,set_cons_zero,set_cons_succ];first|done|rfl):wpAnyH P md ops Q S (fuel+1) l a w:=by
 rw [Bool.and_eq_true,Bool.and_eq_true]at hc
 subst ha hl
 exact wpAnyH_take hi hc.1 hc.2.1 hc.2.2 hQ (Or.inl ⟨hw,hy⟩) hS h

end

set_option maxHeartbeats 16000000 in
set_option maxRecDepth 100000 in
theorem right_1 (k:Int) (t:ByteArray) (n:Bool) (d x r c:Int) (p q:Bool) (r2 c2:Int) (p2 q2:Bool) (m:Int) (A:Option Addr) (cp:Nat) (l:List S70) (a1:Bool) (w:World) (nm:Bool) (v:Int) (hm:m=(l.length:Int)) (R:Bool) (hR:((!(k==13) || a1) && nodeB nm (arB v t m && l.all constB) k t n d x r c p q r2 c2 p2 q2 m)=R) (hN:k=7∨k=11→spec_l4Name.f NK t=some nm) (hV:k=12→spec_l2Number.f NK t=some v) (hC:Kd.C k70 w A l.length l) (hcp:l.length≤cp) (ht:t.size≤1048576) (hk:k=1):
  Calls Tryz.prog 103 #[.agg #[.int .i64 k,.string t,.bool n,.int .i64 d,.int .i64 x,.int .i64 r,.int .i64 c,.bool p,.bool q,.int .i64 r2,.int .i64 c2,.bool p2,.bool q2,.int .i64 m,.slice A l.length cp],.bool a1] w fun e w'=>e= .returned (.bool R)∧Below w.heap.size w w':=by
 subst hm
 have hB:Below w.heap.size w (((w.alloc (.cells #[.int .i64 k,.string t,.bool n,.int .i64 d,.int .i64 x,.int .i64 r,.int .i64 c,.bool p,.bool q,.int .i64 r2,.int .i64 c2,.bool p2,.bool q2,.int .i64 (l.length:Int),.slice A l.length cp] 70)).alloc (.cells #[.int .i64 k,.string t,.bool n,.int .i64 d,.int .i64 x,.int .i64 r,.int .i64 c,.bool p,.bool q,.int .i64 r2,.int .i64 c2,.bool p2,.bool q2,.int .i64 (l.length:Int)] 67))):=z2q (z2q (Below.refl _ _) _) _
 have HB:=Lib.hid hB;clear hB
 have HR:=Lib.hid hR;clear hR
 have HN:=Lib.hid hN;have HV:=Lib.hid hV;have HT:=Lib.hid ht;clear hN hV
 have HC:=Lib.hid hC;have HCP:=Lib.hid hcp;clear hC hcp
 subst hk
 go_enter Tryz.func103,Tryz.ntmps103
 go_upto_region 5 with fail
 by_cases hl:((l.length:Int)==0)=true
 ·skip
  by_cases he:emp t=true
  ·skip
   have e2:(t.toList==([]:List UInt8))=true:=he
   have e3:t.toList.isEmpty=true:=by simpa [emp]using he
   have HE:=Lib.hid he
   clear he
   have HG:=Lib.hid (specGoodDec_is n d x)
   go_wp2_with fail
   refine(spec_GoodDec.calls _ _ _ _ _ HG.out).mono ?_;rintro e w2 ⟨rfl,hb⟩
   obtain⟨hc2,hf2⟩:=bcell hb
   have HB2:=Lib.hid (z5q HB.out hb)
   have hsz2:w.heap.size+1<w2.heap.size:=by have h_:=hb.size;simp at h_;omega
   clear hb
   by_cases hg:goodDecB n d x=true
   ·skip
    by_cases hn:n=true
    ·skip
     subst hn
     obtain rfl:R=false:=by rw [←HR.out];simp only [nodeB_1,hl,Bool.and_false,Bool.false_and,Bool.true_and,Bool.and_true,Bool.not_true,Bool.not_false,Bool.or_true,Bool.true_or,Bool.false_or,Bool.or_false];try rfl
     rw [hg]
     clear hg
     go_wp2_with fail
     go_ret
     exact⟨rfl,HB2.out⟩
    ·replace hn:=Bool.eq_false_iff.mpr hn
     subst hn
     by_cases hz:zR r c p q=true
     ·skip
      obtain rfl:R=zR r2 c2 p2 q2:=by rw [←HR.out];simp only [nodeB_1,hl,hg,HE.out,hz,Bool.and_false,Bool.false_and,Bool.true_and,Bool.and_true,Bool.not_true,Bool.not_false,Bool.or_true,Bool.true_or,Bool.false_or,Bool.or_false];try rfl
      have hz2:(r==0 && (c==0 && (!p && !q)))=true:=hz
      rw [hg]
      clear hg hz
      go_wp2_with fail
      go_ret
      exact⟨rfl,HB2.out⟩
     ·replace hz:=Bool.eq_false_iff.mpr hz
      obtain rfl:R=false:=by rw [←HR.out];simp only [nodeB_1,hl,hg,HE.out,hz,Bool.and_false,Bool.false_and,Bool.true_and,Bool.and_true,Bool.not_true,Bool.not_false,Bool.or_true,Bool.true_or,Bool.false_or,Bool.or_false];try rfl
      have hz2:(r==0 && (c==0 && (!p && !q)))=false:=hz
      rw [hg]
      clear hg hz
      go_wp2_with fail
      go_ret
      exact⟨rfl,HB2.out⟩
   ·replace hg:=Bool.eq_false_iff.mpr hg
    obtain rfl:R=false:=by rw [←HR.out];simp only [nodeB_1,hl,hg,Bool.and_false,Bool.false_and,Bool.true_and,Bool.and_true,Bool.not_true,Bool.not_false,Bool.or_true,Bool.true_or,Bool.false_or,Bool.or_false];try rfl
    rw [hg]
    clear hg
    go_wp2_with fail
    go_ret
    exact⟨rfl,HB2.out⟩
  ·replace he:=Bool.eq_false_iff.mpr he
   obtain rfl:R=false:=by rw [←HR.out];simp only [nodeB_1,hl,he,Bool.and_false,Bool.false_and,Bool.true_and,Bool.and_true,Bool.not_true,Bool.not_false,Bool.or_true,Bool.true_or,Bool.false_or,Bool.or_false];try rfl
   have e2:(t.toList==([]:List UInt8))=false:=he
   have e3:t.toList.isEmpty=false:=by simpa [emp]using he
   have HE:=Lib.hid he
   clear he
   go_wp2_with fail
   go_ret
   exact⟨rfl,HB.out⟩
 ·replace hl:=Bool.eq_false_iff.mpr hl
  obtain rfl:R=false:=by rw [←HR.out];simp only [nodeB_1,hl,Bool.and_false,Bool.false_and,Bool.true_and,Bool.and_true,Bool.not_true,Bool.not_false,Bool.or_true,Bool.true_or,Bool.false_or,Bool.or_false];try rfl
  go_wp2_with fail
  go_ret
  exact⟨rfl,HB.out⟩

set_option maxHeartbeats 16000000 in
set_option maxRecDepth 100000 in
theorem right_5 (k:Int) (t:ByteArray) (n:Bool) (d x r c:Int) (p q:Bool) (r2 c2:Int) (p2 q2:Bool) (m:Int) (A:Option Addr) (cp:Nat) (l:List S70) (a1:Bool) (w:World) (nm:Bool) (v:Int) (hm:m=(l.length:Int)) (R:Bool) (hR:((!(k==13) || a1) && nodeB nm (arB v t m && l.all constB) k t n d x r c p q r2 c2 p2 q2 m)=R) (hN:k=7∨k=11→spec_l4Name.f NK t=some nm) (hV:k=12→spec_l2Number.f NK t=some v) (hC:Kd.C k70 w A l.length l) (hcp:l.length≤cp) (ht:t.size≤1048576) (hk:k=5):
  Calls Tryz.prog 103 #[.agg #[.int .i64 k,.string t,.bool n,.int .i64 d,.int .i64 x,.int .i64 r,.int .i64 c,.bool p,.bool q,.int .i64 r2,.int .i64 c2,.bool p2,.bool q2,.int .i64 m,.slice A l.length cp],.bool a1] w fun e w'=>e= .returned (.bool R)∧Below w.heap.size w w':=by
 subst hm
 have hB:Below w.heap.size w (((w.alloc (.cells #[.int .i64 k,.string t,.bool n,.int .i64 d,.int .i64 x,.int .i64 r,.int .i64 c,.bool p,.bool q,.int .i64 r2,.int .i64 c2,.bool p2,.bool q2,.int .i64 (l.length:Int),.slice A l.length cp] 70)).alloc (.cells #[.int .i64 k,.string t,.bool n,.int .i64 d,.int .i64 x,.int .i64 r,.int .i64 c,.bool p,.bool q,.int .i64 r2,.int .i64 c2,.bool p2,.bool q2,.int .i64 (l.length:Int)] 67))):=z2q (z2q (Below.refl _ _) _) _
 have HB:=Lib.hid hB;clear hB
 have HR:=Lib.hid hR;clear hR
 have HN:=Lib.hid hN;have HV:=Lib.hid hV;have HT:=Lib.hid ht;clear hN hV
 have HC:=Lib.hid hC;have HCP:=Lib.hid hcp;clear hC hcp
 subst hk
 go_enter Tryz.func103,Tryz.ntmps103
 go_upto_region 5 with fail
 by_cases hl:((l.length:Int)==0)=true
 ·skip
  by_cases he:emp t=true
  ·skip
   have e2:(t.toList==([]:List UInt8))=true:=he
   have e3:t.toList.isEmpty=true:=by simpa [emp]using he
   have HE:=Lib.hid he
   clear he
   have HG:=Lib.hid (specGoodRef_is r c p q)
   go_wp2_with fail
   refine(spec_GoodRef.calls _ _ _ _ _ _ HG.out).mono ?_;rintro e w2 ⟨rfl,hb⟩
   obtain⟨hc2,hf2⟩:=bcell hb
   have HB2:=Lib.hid (z5q HB.out hb)
   have hsz2:w.heap.size+1<w2.heap.size:=by have h_:=hb.size;simp at h_;omega
   clear hb
   by_cases hg:goodRefB r c=true
   ·skip
    by_cases hz:zD n d x=true
    ·skip
     obtain rfl:R=zR r2 c2 p2 q2:=by rw [←HR.out];simp only [nodeB_5,hl,hg,HE.out,hz,Bool.and_false,Bool.false_and,Bool.true_and,Bool.and_true,Bool.not_true,Bool.not_false,Bool.or_true,Bool.true_or,Bool.false_or,Bool.or_false];try rfl
     have hz2:(!n && (d==0 && x==0))=true:=hz
     rw [hg]
     clear hg hz
     go_wp2_with fail
     go_ret
     exact⟨rfl,HB2.out⟩
    ·replace hz:=Bool.eq_false_iff.mpr hz
     obtain rfl:R=false:=by rw [←HR.out];simp only [nodeB_5,hl,hg,HE.out,hz,Bool.and_false,Bool.false_and,Bool.true_and,Bool.and_true,Bool.not_true,Bool.not_false,Bool.or_true,Bool.true_or,Bool.false_or,Bool.or_false];try rfl
     have hz2:(!n && (d==0 && x==0))=false:=hz
     rw [hg]
     clear hg hz
     go_wp2_with fail
     go_ret
     exact⟨rfl,HB2.out⟩
   ·replace hg:=Bool.eq_false_iff.mpr hg
    obtain rfl:R=false:=by rw [←HR.out];simp only [nodeB_5,hl,hg,Bool.and_false,Bool.false_and,Bool.true_and,Bool.and_true,Bool.not_true,Bool.not_false,Bool.or_true,Bool.true_or,Bool.false_or,Bool.or_false];try rfl
    rw [hg]
    clear hg
    go_wp2_with fail
    go_ret
    exact⟨rfl,HB2.out⟩
  ·replace he:=Bool.eq_false_iff.mpr he
   obtain rfl:R=false:=by rw [←HR.out];simp only [nodeB_5,hl,he,Bool.and_false,Bool.false_and,Bool.true_and,Bool.and_true,Bool.not_true,Bool.not_false,Bool.or_true,Bool.true_or,Bool.false_or,Bool.or_false];try rfl
   have e2:(t.toList==([]:List UInt8))=false:=he
   have e3:t.toList.isEmpty=false:=by simpa [emp]using he
   have HE:=Lib.hid he
   clear he
   go_wp2_with fail
   go_ret
   exact⟨rfl,HB.out⟩
 ·replace hl:=Bool.eq_false_iff.mpr hl
  obtain rfl:R=false:=by rw [←HR.out];simp only [nodeB_5,hl,Bool.and_false,Bool.false_and,Bool.true_and,Bool.and_true,Bool.not_true,Bool.not_false,Bool.or_true,Bool.true_or,Bool.false_or,Bool.or_false];try rfl
  go_wp2_with fail
  go_ret
  exact⟨rfl,HB.out⟩

set_option maxHeartbeats 16000000 in
set_option maxRecDepth 100000 in
theorem right_6 (k:Int) (t:ByteArray) (n:Bool) (d x r c:Int) (p q:Bool) (r2 c2:Int) (p2 q2:Bool) (m:Int) (A:Option Addr) (cp:Nat) (l:List S70) (a1:Bool) (w:World) (nm:Bool) (v:Int) (hm:m=(l.length:Int)) (R:Bool) (hR:((!(k==13) || a1) && nodeB nm (arB v t m && l.all constB) k t n d x r c p q r2 c2 p2 q2 m)=R) (hN:k=7∨k=11→spec_l4Name.f NK t=some nm) (hV:k=12→spec_l2Number.f NK t=some v) (hC:Kd.C k70 w A l.length l) (hcp:l.length≤cp) (ht:t.size≤1048576) (hk:k=6):
  Calls Tryz.prog 103 #[.agg #[.int .i64 k,.string t,.bool n,.int .i64 d,.int .i64 x,.int .i64 r,.int .i64 c,.bool p,.bool q,.int .i64 r2,.int .i64 c2,.bool p2,.bool q2,.int .i64 m,.slice A l.length cp],.bool a1] w fun e w'=>e= .returned (.bool R)∧Below w.heap.size w w':=by
 subst hm
 have hB:Below w.heap.size w (((w.alloc (.cells #[.int .i64 k,.string t,.bool n,.int .i64 d,.int .i64 x,.int .i64 r,.int .i64 c,.bool p,.bool q,.int .i64 r2,.int .i64 c2,.bool p2,.bool q2,.int .i64 (l.length:Int),.slice A l.length cp] 70)).alloc (.cells #[.int .i64 k,.string t,.bool n,.int .i64 d,.int .i64 x,.int .i64 r,.int .i64 c,.bool p,.bool q,.int .i64 r2,.int .i64 c2,.bool p2,.bool q2,.int .i64 (l.length:Int)] 67))):=z2q (z2q (Below.refl _ _) _) _
 have HB:=Lib.hid hB;clear hB
 have HR:=Lib.hid hR;clear hR
 have HN:=Lib.hid hN;have HV:=Lib.hid hV;have HT:=Lib.hid ht;clear hN hV
 have HC:=Lib.hid hC;have HCP:=Lib.hid hcp;clear hC hcp
 subst hk
 go_enter Tryz.func103,Tryz.ntmps103
 go_upto_region 5 with fail
 by_cases hl:((l.length:Int)==0)=true
 ·skip
  by_cases he:emp t=true
  ·skip
   have e2:(t.toList==([]:List UInt8))=true:=he
   have e3:t.toList.isEmpty=true:=by simpa [emp]using he
   have HE:=Lib.hid he
   clear he
   have HG:=Lib.hid (specGoodRef_is r c p q)
   have HG3:=Lib.hid (specGoodRef_is r2 c2 p2 q2)
   go_wp2_with fail
   refine(spec_GoodRef.calls _ _ _ _ _ _ HG.out).mono ?_;rintro e w2 ⟨rfl,hb⟩
   obtain⟨hc2,hf2⟩:=bcell hb
   have HB2:=Lib.hid (z5q HB.out hb)
   have hsz2:w.heap.size+1<w2.heap.size:=by have h_:=hb.size;simp at h_;omega
   clear hb
   by_cases hg:goodRefB r c=true
   ·skip
    by_cases hh:goodRefB r2 c2=true
    ·skip
     obtain rfl:R=zD n d x:=by rw [←HR.out];simp only [nodeB_6,hl,hg,HE.out,hh,Bool.and_false,Bool.false_and,Bool.true_and,Bool.and_true,Bool.not_true,Bool.not_false,Bool.or_true,Bool.true_or,Bool.false_or,Bool.or_false];try rfl
     have HH:=Lib.hid hh;clear hh
     rw [hg]
     clear hg
     go_wp2_with fail
     refine(spec_GoodRef.calls _ _ _ _ _ _ HG3.out).mono ?_;rintro e w3 ⟨rfl,hb⟩
     obtain⟨hc3,hf3⟩:=bcell hb
     have HB3:=Lib.hid (z5q HB2.out hb)
     have hsz3:w.heap.size+1<w3.heap.size:=by have h_:=hb.size;omega
     clear hb
     rw [HH.out]
     go_wp2_with fail
     go_ret
     exact⟨rfl,HB3.out⟩
    ·replace hh:=Bool.eq_false_iff.mpr hh
     obtain rfl:R=false:=by rw [←HR.out];simp only [nodeB_6,hl,hg,HE.out,hh,Bool.and_false,Bool.false_and,Bool.true_and,Bool.and_true,Bool.not_true,Bool.not_false,Bool.or_true,Bool.true_or,Bool.false_or,Bool.or_false];try rfl
     have HH:=Lib.hid hh;clear hh
     rw [hg]
     clear hg
     go_wp2_with fail
     refine(spec_GoodRef.calls _ _ _ _ _ _ HG3.out).mono ?_;rintro e w3 ⟨rfl,hb⟩
     obtain⟨hc3,hf3⟩:=bcell hb
     have HB3:=Lib.hid (z5q HB2.out hb)
     have hsz3:w.heap.size+1<w3.heap.size:=by have h_:=hb.size;omega
     clear hb
     rw [HH.out]
     go_wp2_with fail
     go_ret
     exact⟨rfl,HB3.out⟩
   ·replace hg:=Bool.eq_false_iff.mpr hg
    obtain rfl:R=false:=by rw [←HR.out];simp only [nodeB_6,hl,hg,Bool.and_false,Bool.false_and,Bool.true_and,Bool.and_true,Bool.not_true,Bool.not_false,Bool.or_true,Bool.true_or,Bool.false_or,Bool.or_false];try rfl
    rw [hg]
    clear hg
    go_wp2_with fail
    go_ret
    exact⟨rfl,HB2.out⟩
  ·replace he:=Bool.eq_false_iff.mpr he
   obtain rfl:R=false:=by rw [←HR.out];simp only [nodeB_6,hl,he,Bool.and_false,Bool.false_and,Bool.true_and,Bool.and_true,Bool.not_true,Bool.not_false,Bool.or_true,Bool.true_or,Bool.false_or,Bool.or_false];try rfl
   have e2:(t.toList==([]:List UInt8))=false:=he
   have e3:t.toList.isEmpty=false:=by simpa [emp]using he
   have HE:=Lib.hid he
   clear he
   go_wp2_with fail
   go_ret
   exact⟨rfl,HB.out⟩
 ·replace hl:=Bool.eq_false_iff.mpr hl
  obtain rfl:R=false:=by rw [←HR.out];simp only [nodeB_6,hl,Bool.and_false,Bool.false_and,Bool.true_and,Bool.and_true,Bool.not_true,Bool.not_false,Bool.or_true,Bool.true_or,Bool.false_or,Bool.or_false];try rfl
  go_wp2_with fail
  go_ret
  exact⟨rfl,HB.out⟩

set_option maxHeartbeats 16000000 in
set_option maxRecDepth 100000 in
theorem right_2 (k:Int) (t:ByteArray) (n:Bool) (d x r c:Int) (p q:Bool) (r2 c2:Int) (p2 q2:Bool) (m:Int) (A:Option Addr) (cp:Nat) (l:List S70) (a1:Bool) (w:World) (nm:Bool) (v:Int) (hm:m=(l.length:Int)) (R:Bool) (hR:((!(k==13) || a1) && nodeB nm (arB v t m && l.all constB) k t n d x r c p q r2 c2 p2 q2 m)=R) (hN:k=7∨k=11→spec_l4Name.f NK t=some nm) (hV:k=12→spec_l2Number.f NK t=some v) (hC:Kd.C k70 w A l.length l) (hcp:l.length≤cp) (ht:t.size≤1048576) (hk:k=2):
  Calls Tryz.prog 103 #[.agg #[.int .i64 k,.string t,.bool n,.int .i64 d,.int .i64 x,.int .i64 r,.int .i64 c,.bool p,.bool q,.int .i64 r2,.int .i64 c2,.bool p2,.bool q2,.int .i64 m,.slice A l.length cp],.bool a1] w fun e w'=>e= .returned (.bool R)∧Below w.heap.size w w':=by
 subst hm
 have hB:Below w.heap.size w (((w.alloc (.cells #[.int .i64 k,.string t,.bool n,.int .i64 d,.int .i64 x,.int .i64 r,.int .i64 c,.bool p,.bool q,.int .i64 r2,.int .i64 c2,.bool p2,.bool q2,.int .i64 (l.length:Int),.slice A l.length cp] 70)).alloc (.cells #[.int .i64 k,.string t,.bool n,.int .i64 d,.int .i64 x,.int .i64 r,.int .i64 c,.bool p,.bool q,.int .i64 r2,.int .i64 c2,.bool p2,.bool q2,.int .i64 (l.length:Int)] 67))):=z2q (z2q (Below.refl _ _) _) _
 have HB:=Lib.hid hB;clear hB
 have HR:=Lib.hid hR;clear hR
 have HN:=Lib.hid hN;have HV:=Lib.hid hV;have HT:=Lib.hid ht;clear hN hV
 have HC:=Lib.hid hC;have HCP:=Lib.hid hcp;clear hC hcp
 subst hk
 go_enter Tryz.func103,Tryz.ntmps103
 go_upto_region 5 with fail
 have HG:=Lib.hid (specBare_is 2 t n d x r c p q r2 c2 p2 q2 (l.length:Int))
 go_wp2_with fail
 refine(spec_l4Bare.calls _ _ _ _ _ _ _ _ _ _ _ _ _ _ _ _ HG.out).mono ?_;rintro e w2 ⟨rfl,hb⟩
 obtain⟨hc2,hf2⟩:=bcell hb
 have HB2:=Lib.hid (z5q HB.out hb)
 have hsz2:w.heap.size+1<w2.heap.size:=by have h_:=hb.size;simp at h_;omega
 clear hb
 clear HG
 by_cases hbare:(zD n d x && (zR r c p q && zR r2 c2 p2 q2))=false
 ·rw [hbare]
  obtain rfl:R=false:=by rw [←HR.out];simp only [nodeB_2,hbare,Bool.and_false,Bool.false_and,Bool.true_and,Bool.and_true,Bool.not_true,Bool.not_false,Bool.or_true,Bool.true_or,Bool.false_or,Bool.or_false];try rfl
  clear hbare
  go_wp2_with fail
  go_ret
  exact⟨rfl,HB2.out⟩
 replace hbare:=(Bool.not_eq_false _).mp hbare
 rw [hbare]
 by_cases hl:((l.length:Int)==0)=true
 ·skip
  have HG:=Lib.hid (specPrinted_is t ht 200 NK (by unfold NK;omega))
  obtain rfl:R=(printB t && decide ((t.size:Int)≤200)):=by rw [←HR.out];simp only [nodeB_2,hl,hbare,Bool.and_false,Bool.false_and,Bool.true_and,Bool.and_true,Bool.not_true,Bool.not_false,Bool.or_true,Bool.true_or,Bool.false_or,Bool.or_false];try rfl
  go_wp2_with fail
  refine(spec_l4Printed.calls _ _ _ _ _ HG.out).mono ?_;rintro e w3 ⟨rfl,hb⟩
  obtain⟨hc3,hf3⟩:=bcell (Drawn0.below hb)
  have HB3:=Lib.hid (z5q HB2.out (Drawn0.below hb))
  have hsz3:w.heap.size+1<w3.heap.size:=by have h_:=(Drawn0.below hb).size;omega
  clear hb
  go_wp2_with fail
  go_ret
  exact⟨rfl,HB3.out⟩
 ·replace hl:=Bool.eq_false_iff.mpr hl
  obtain rfl:R=false:=by rw [←HR.out];simp only [nodeB_2,hl,Bool.and_false,Bool.false_and,Bool.true_and,Bool.and_true,Bool.not_true,Bool.not_false,Bool.or_true,Bool.true_or,Bool.false_or,Bool.or_false];try rfl
  go_wp2_with fail
  go_ret
  exact⟨rfl,HB2.out⟩

set_option maxHeartbeats 16000000 in
set_option maxRecDepth 100000 in
theorem right_3 (k:Int) (t:ByteArray) (n:Bool) (d x r c:Int) (p q:Bool) (r2 c2:Int) (p2 q2:Bool) (m:Int) (A:Option Addr) (cp:Nat) (l:List S70) (a1:Bool) (w:World) (nm:Bool) (v:Int) (hm:m=(l.length:Int)) (R:Bool) (hR:((!(k==13) || a1) && nodeB nm (arB v t m && l.all constB) k t n d x r c p q r2 c2 p2 q2 m)=R) (hN:k=7∨k=11→spec_l4Name.f NK t=some nm) (hV:k=12→spec_l2Number.f NK t=some v) (hC:Kd.C k70 w A l.length l) (hcp:l.length≤cp) (ht:t.size≤1048576) (hk:k=3):
  Calls Tryz.prog 103 #[.agg #[.int .i64 k,.string t,.bool n,.int .i64 d,.int .i64 x,.int .i64 r,.int .i64 c,.bool p,.bool q,.int .i64 r2,.int .i64 c2,.bool p2,.bool q2,.int .i64 m,.slice A l.length cp],.bool a1] w fun e w'=>e= .returned (.bool R)∧Below w.heap.size w w':=by
 subst hm
 have hB:Below w.heap.size w (((w.alloc (.cells #[.int .i64 k,.string t,.bool n,.int .i64 d,.int .i64 x,.int .i64 r,.int .i64 c,.bool p,.bool q,.int .i64 r2,.int .i64 c2,.bool p2,.bool q2,.int .i64 (l.length:Int),.slice A l.length cp] 70)).alloc (.cells #[.int .i64 k,.string t,.bool n,.int .i64 d,.int .i64 x,.int .i64 r,.int .i64 c,.bool p,.bool q,.int .i64 r2,.int .i64 c2,.bool p2,.bool q2,.int .i64 (l.length:Int)] 67))):=z2q (z2q (Below.refl _ _) _) _
 have HB:=Lib.hid hB;clear hB
 have HR:=Lib.hid hR;clear hR
 have HN:=Lib.hid hN;have HV:=Lib.hid hV;have HT:=Lib.hid ht;clear hN hV
 have HC:=Lib.hid hC;have HCP:=Lib.hid hcp;clear hC hcp
 subst hk
 go_enter Tryz.func103,Tryz.ntmps103
 go_upto_region 5 with fail
 have HG:=Lib.hid (specBare_is 3 t n d x r c p q r2 c2 p2 q2 (l.length:Int))
 go_wp2_with fail
 refine(spec_l4Bare.calls _ _ _ _ _ _ _ _ _ _ _ _ _ _ _ _ HG.out).mono ?_;rintro e w2 ⟨rfl,hb⟩
 obtain⟨hc2,hf2⟩:=bcell hb
 have HB2:=Lib.hid (z5q HB.out hb)
 have hsz2:w.heap.size+1<w2.heap.size:=by have h_:=hb.size;simp at h_;omega
 clear hb
 clear HG
 by_cases hbare:(zD n d x && (zR r c p q && zR r2 c2 p2 q2))=false
 ·rw [hbare]
  obtain rfl:R=false:=by rw [←HR.out];simp only [nodeB_3,hbare,Bool.and_false,Bool.false_and,Bool.true_and,Bool.and_true,Bool.not_true,Bool.not_false,Bool.or_true,Bool.true_or,Bool.false_or,Bool.or_false];try rfl
  clear hbare
  go_wp2_with fail
  go_ret
  exact⟨rfl,HB2.out⟩
 replace hbare:=(Bool.not_eq_false _).mp hbare
 rw [hbare]
 by_cases hl:((l.length:Int)==0)=true
 ·skip
  by_cases he:(t.toList==([84,82,85,69]:List UInt8))=true
  ·skip
   obtain rfl:R=true:=by rw [←HR.out];simp only [nodeB_3,hl,hbare,he,Bool.and_false,Bool.false_and,Bool.true_and,Bool.and_true,Bool.not_true,Bool.not_false,Bool.or_true,Bool.true_or,Bool.false_or,Bool.or_false];try rfl
   go_wp2_with fail
   go_ret
   exact⟨rfl,HB2.out⟩
  ·replace he:=Bool.eq_false_iff.mpr he
   obtain rfl:R=(t.toList==([70,65,76,83,69]:List UInt8)):=by rw [←HR.out];simp only [nodeB_3,hl,hbare,he,Bool.and_false,Bool.false_and,Bool.true_and,Bool.and_true,Bool.not_true,Bool.not_false,Bool.or_true,Bool.true_or,Bool.false_or,Bool.or_false];try rfl
   go_wp2_with fail
   go_ret
   exact⟨rfl,HB2.out⟩
 ·replace hl:=Bool.eq_false_iff.mpr hl
  obtain rfl:R=false:=by rw [←HR.out];simp only [nodeB_3,hl,Bool.and_false,Bool.false_and,Bool.true_and,Bool.and_true,Bool.not_true,Bool.not_false,Bool.or_true,Bool.true_or,Bool.false_or,Bool.or_false];try rfl
  go_wp2_with fail
  go_ret
  exact⟨rfl,HB2.out⟩

end Go.Proofs.YtegdpgpbdcediaaGreatDoor.PFnExactUsedNames
