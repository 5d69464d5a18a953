/- Functions of the program as Lean functions, and proofs that the Go code comes to their answers: for the law FnExactUsedNames; made out of the print by a program of mine (compact.py). No conditions but each theorem's own. -/
import Derived.Test.YtegdpgpbdcediaaGreatDoorMFnExactUsedNamesa0
import Derived.Test.YtegdpgpbdcediaaGreatDoorMFnExactUsedNamesa9
import Derived.Test.YtegdpgpbdcediaaGreatDoorMFnExactUsedNamesa10
namespace Go.Proofs.YtegdpgpbdcediaaGreatDoor.PFnExactUsedNames
open List (map_toArray map_cons map_nil length_drop length_take set_cons_zero set_cons_succ setIfInBounds_toArray)
open Go.RowKit Go.Proofs.YtegdpgpbdcediaaGreatDoorW.PrintWords Go.Proofs.YtegdpgpbdcediaaGreatDoorW.PrintLast Go.Proofs.YtegdpgpbdcediaaGreatDoorW.PrintMore
attribute [local go_sem] max2_int min2_int max_two min_two max_three min_three max_four min_four   -- for this text's walks alone
set_option linter.unusedVariables false
set_option linter.unusedSimpArgs false

attribute [local go_sem high] eqA47 eqA65
set_option maxHeartbeats 8000000 in
set_option maxRecDepth 100000 in
theorem impl_RefText.calls (k:Nat) (a0_0:Int) (a0_1:Int) (a0_2:Bool) (a0_3:Bool) (r:ByteArray) (w:World) (hT:Tab w) (h:impl_RefText.f k a0_0 a0_1 a0_2 a0_3=some r):
  Calls Tryz.prog 123 #[.agg #[.int .i64 a0_0,.int .i64 a0_1,.bool a0_2,.bool a0_3]] w fun e w'=>e= .returned (.string r)∧Below w.heap.size w w':=by
 have hu47:=Tryz.underlying47
 have HB:=Aside0.mk (Below.refl w.heap.size w)
 have H:((impl_GoodRef.f a0_0 a0_1 a0_2 a0_3).bind fun t448=>(if t448=true then(if a0_3=true then(impl_RefText.j0 k (⟨#[36]⟩:ByteArray) a0_0 a0_1 a0_2 a0_3)else(impl_RefText.j0 k (⟨#[]⟩:ByteArray) a0_0 a0_1 a0_2 a0_3))else(some (⟨#[]⟩:ByteArray))))=some r:=h
 clear h
 replace H:=Option.bind_eq_some_iff.mp H
 obtain⟨t448,A20,H⟩:=H
 replace H:(if t448=true then(if a0_3=true then(impl_RefText.j0 k (⟨#[36]⟩:ByteArray) a0_0 a0_1 a0_2 a0_3)else(impl_RefText.j0 k (⟨#[]⟩:ByteArray) a0_0 a0_1 a0_2 a0_3))else(some (⟨#[]⟩:ByteArray)))=some r:=H
 have A2:=Aside0.mk A20
 clear A20
 by_cases c3:t448=true
 ·subst c3
  have H1:(if a0_3=true then(impl_RefText.j0 k (⟨#[36]⟩:ByteArray) a0_0 a0_1 a0_2 a0_3)else(impl_RefText.j0 k (⟨#[]⟩:ByteArray) a0_0 a0_1 a0_2 a0_3))=some r:=by rw [if_pos rfl]at H;exact H
  clear H
  have H:=H1
  clear H1
  have HC4:=Aside0.mk H
  clear H
  go_enter Tryz.func123,Tryz.ntmps123
  go_upto_if 8 with (first|((with_reducible refine z15q (N:=1) rfl ?_);refine z13q ?hg (N:=1) ?hd (cs:=#[.int .i64 a0_0,.int .i64 a0_1,.bool a0_2,.bool a0_3]) (t:=47) ?hr ?_;(case hd=>rfl);(case hg=>rfl);(case hr=>first|(go_simp;done)|(go_simp;rfl));intro gb447 hg w5 hbox hb;have n0_:=Aside0.mk (z5q (ibh HB.out) hb);have n1_:=Aside0.mk (hbox);have n2_:=Aside0.mk ((by rw [hg];exact(z6q (ibh HB.out)):w.heap.size≤gb447));have n3_:=Aside0.mk ((by rw [hg];exact(z6q (ibh HB.out)):w.heap.size≤gb447));clear HB;have HB:=n0_;have BK447:=n1_;have GW447:=n2_;have GE447:=n3_;clear n0_ n1_ n2_ n3_;clear hb hbox hg;obtain⟨hcz6_0,hcz6_1,hcz6_2,hcz6_3,hfz6_0,hfz6_1,hfz6_2,hfz6_3⟩:=cr4 (w:=w5) (g:=gb447) BK447.out)|((with_reducible refine z8q (f:=49) rfl ?_);refine z17q (some 5) rfl rfl Tryz.func49 (by kernel_rfl) rfl #[.agg #[.int .i64 a0_0,.int .i64 a0_1,.bool a0_2,.bool a0_3]] rfl (by(try simp only [map_toArray,map_cons,map_nil]);first|done|rfl|(simp only [length_drop,length_take];rfl)) ?_;(with_reducible refine(impl_GoodRef.calls a0_0 a0_1 a0_2 a0_3 true _ A2.out).mono ?_);rintro e w7 ⟨rfl,hb⟩;refine⟨_,rfl,?_⟩;have n0_:=Aside0.mk (z12q (cy BK447.out) hb);have n1_:=Aside0.mk (z5q (ibh HB.out) hb);clear BK447;clear HB;have BK447:=n0_;have HB:=n1_;clear n0_ n1_;(try clear hb);(try clear hb2);(try clear hk);(try clear hi);obtain⟨hcz8_0,hcz8_1,hcz8_2,hcz8_3,hfz8_0,hfz8_1,hfz8_2,hfz8_3⟩:=cr4 (w:=w7) (g:=gb447) BK447.out))
  (try simp only [Act.put,setIfInBounds_toArray,set_cons_zero,set_cons_succ])
  go_cut [3] (fun v3 wc=>∃ (kq:Nat) (x3_3:ByteArray),v3= .string x3_3∧Aside0 (impl_RefText.j0 kq x3_3 a0_0 a0_1 a0_2 a0_3=some r)∧Aside0 (kq≤k)∧Aside0 (wc.heap[gb447]? =some (.cells #[.int .i64 a0_0,.int .i64 a0_1,.bool a0_2,.bool a0_3] 47 (0,0)))∧Aside0 (Below w.heap.size w wc))
  case first=>
   have H:=HC4.out
   clear HC4
   by_cases c9:a0_3=true
   ·subst c9
    have H1:(impl_RefText.j0 k (⟨#[36]⟩:ByteArray) a0_0 a0_1 a0_2 true)=some r:=by rw [if_pos rfl]at H;exact H
    clear H
    have H:=H1
    clear H1
    have H':=Aside0.mk H
    clear H
    go_wp2
    go_meet
    case rel=>exact⟨_,((⟨#[36]⟩:ByteArray)),(by first|rfl|(simp;done)|(simp [*];done)|(simp;unfold wrap64;omega)),H',⟨by first|omega|exact Nat.le_refl _⟩,⟨by(with_reducible repeat(first|refine z14q ?_ _|refine z16q ?_|refine z10q ?_ _));exact BK447.out⟩,⟨by repeat(first|(with_reducible first|exact HB.out|apply z2q|apply z3q|apply z4q|refine z7q ?_ GE447.out)|exact HB.out)⟩⟩
   ·replace c9:=Bool.eq_false_iff.mpr c9
    subst c9
    have H1:(impl_RefText.j0 k (⟨#[]⟩:ByteArray) a0_0 a0_1 a0_2 false)=some r:=by rw [if_neg (show ¬ (false=true)by decide)]at H;exact H
    clear H
    have H:=H1
    clear H1
    have H':=Aside0.mk H
    clear H
    go_wp2
    go_meet
    case rel=>exact⟨_,((⟨#[]⟩:ByteArray)),(by first|rfl|(simp;done)|(simp [*];done)|(simp;unfold wrap64;omega)),H',⟨by first|omega|exact Nat.le_refl _⟩,⟨by(with_reducible repeat(first|refine z14q ?_ _|refine z16q ?_|refine z10q ?_ _));exact BK447.out⟩,⟨by repeat(first|(with_reducible first|exact HB.out|apply z2q|apply z3q|apply z4q|refine z7q ?_ GE447.out)|exact HB.out)⟩⟩
  case rest=>
   clear HC4
   try clear c1
   try clear p2
   try clear c3
   try clear c4
   try clear c9
   try clear hcz6_0
   try clear hcz6_1
   try clear hcz6_2
   try clear hcz6_3
   try clear hcz8_0
   try clear hcz8_1
   try clear hcz8_2
   try clear hcz8_3
   try clear hfz6_0
   try clear hfz6_1
   try clear hfz6_2
   try clear hfz6_3
   try clear hfz8_0
   try clear hfz8_1
   try clear hfz8_2
   try clear hfz8_3
   obtain⟨kq,x3_3,rfl,HA,HJ3,BK447,HB⟩:=hcut
   cases kq with
   |zero=>exact absurd HA.out (by simp [impl_RefText.j0])
   |succ kj3=>
    have H:=HA.out
    clear HA
    simp only [impl_RefText.j0]at H
    replace H:=Option.bind_eq_some_iff.mp H
    obtain⟨t449,A100,H⟩:=H
    replace H:(if x3_3.size+t449.size≤9223372036854775807 then(if a0_2=true then(if(x3_3 ++ t449).size+1≤9223372036854775807 then((strconv_Itoa.f a0_0).bind fun t450=>(if((x3_3 ++ t449) ++ (⟨#[36]⟩:ByteArray)).size+t450.size≤9223372036854775807 then(some (((x3_3 ++ t449) ++ (⟨#[36]⟩:ByteArray)) ++ t450))else(none)))else(none))else((strconv_Itoa.f a0_0).bind fun t451=>(if(x3_3 ++ t449).size+t451.size≤9223372036854775807 then(some ((x3_3 ++ t449) ++ t451))else(none))))else(none))=some r:=H
    have A10:=Aside0.mk A100
    clear A100
    by_cases c11:x3_3.size+t449.size≤9223372036854775807
    ·rw [if_pos c11]at H
     have c11b0:=eq_true c11
     have c11b1:decide (x3_3.size+t449.size≤9223372036854775807)=true:=decide_eq_true c11
     try have c11b2:(9223372036854775807<x3_3.size+t449.size)=False:=eq_false (Nat.not_lt.2 c11)
     by_cases c12:a0_2=true
     ·subst c12
      have H1:(if(x3_3 ++ t449).size+1≤9223372036854775807 then((strconv_Itoa.f a0_0).bind fun t450=>(if((x3_3 ++ t449) ++ (⟨#[36]⟩:ByteArray)).size+t450.size≤9223372036854775807 then(some (((x3_3 ++ t449) ++ (⟨#[36]⟩:ByteArray)) ++ t450))else(none)))else(none))=some r:=by rw [if_pos rfl]at H;exact H
      clear H
      have H:=H1
      clear H1
      by_cases c13:(x3_3 ++ t449).size+1≤9223372036854775807
      ·rw [if_pos c13]at H
       have c13b0:=eq_true c13
       have c13b1:decide ((x3_3 ++ t449).size+1≤9223372036854775807)=true:=decide_eq_true c13
       try have c13b2:(9223372036854775807<(x3_3 ++ t449).size+1)=False:=eq_false (Nat.not_lt.2 c13)
       try have c13b28:(9223372036854775807<(x3_3.size+t449.size)+1)=False:=eq_false (Nat.not_lt.2 (by have h8_:=c13;simp only [ByteArray.size_append,ByteArray.size_extract,Nat.min_self,Nat.sub_zero]at h8_;exact h8_))
       replace H:=Option.bind_eq_some_iff.mp H
       obtain⟨t450,A140,H⟩:=H
       replace H:(if((x3_3 ++ t449) ++ (⟨#[36]⟩:ByteArray)).size+t450.size≤9223372036854775807 then(some (((x3_3 ++ t449) ++ (⟨#[36]⟩:ByteArray)) ++ t450))else(none))=some r:=H
       have A14:=Aside0.mk A140
       clear A140
       by_cases c15:((x3_3 ++ t449) ++ (⟨#[36]⟩:ByteArray)).size+t450.size≤9223372036854775807
       ·rw [if_pos c15]at H
        have c15b0:=eq_true c15
        have c15b1:decide (((x3_3 ++ t449) ++ (⟨#[36]⟩:ByteArray)).size+t450.size≤9223372036854775807)=true:=decide_eq_true c15
        try have c15b2:(9223372036854775807<((x3_3 ++ t449) ++ (⟨#[36]⟩:ByteArray)).size+t450.size)=False:=eq_false (Nat.not_lt.2 c15)
        try have c15b28:(9223372036854775807<((x3_3.size+t449.size)+1)+t450.size)=False:=eq_false (Nat.not_lt.2 (by have h8_:=c15;simp only [ByteArray.size_append,ByteArray.size_extract,Nat.min_self,Nat.sub_zero]at h8_;exact h8_))
        obtain rfl:=Option.some.inj H
        obtain⟨hcz16_0,hcz16_1,hcz16_2,hcz16_3,hfz16_0,hfz16_1,hfz16_2,hfz16_3⟩:=cr4 (w:=wc) (g:=gb447) BK447.out
        go_wp2_with (first|((with_reducible refine z8q (f:=140) rfl ?_);refine z17q (some 12) rfl rfl Tryz.func140 (by kernel_rfl) rfl #[.int .i64 a0_1] rfl (by(try simp only [map_toArray,map_cons,map_nil]);first|done|rfl|(simp only [length_drop,length_take];rfl)) ?_;(with_reducible refine(impl_ColName.calls kj3 a0_1 t449 _ A10.out).mono ?_);rintro e w17 ⟨rfl,hb⟩;refine⟨_,rfl,?_⟩;have n0_:=Aside0.mk (z12q (cy BK447.out) hb);have n1_:=Aside0.mk (z5q (ibh HB.out) hb);clear BK447;clear HB;have BK447:=n0_;have HB:=n1_;clear n0_ n1_;(try clear hb);(try clear hb2);(try clear hk);(try clear hi);obtain⟨hcz18_0,hcz18_1,hcz18_2,hcz18_3,hfz18_0,hfz18_1,hfz18_2,hfz18_3⟩:=cr4 (w:=w17) (g:=gb447) BK447.out)|((with_reducible refine z8q (f:=101) rfl ?_);refine z17q (some 21) rfl rfl Tryz.func101 (by kernel_rfl) rfl #[.int .i64 a0_0] rfl (by(try simp only [map_toArray,map_cons,map_nil]);first|done|rfl|(simp only [length_drop,length_take];rfl)) ?_;(with_reducible refine(strconv_Itoa.calls a0_0 t450 _ (hT.below ib) A14.out).mono ?_);rintro e w19 ⟨rfl,hb⟩;refine⟨_,rfl,?_⟩;have n0_:=Aside0.mk (z12q (cy BK447.out) hb);have n1_:=Aside0.mk (z5q (ibh HB.out) hb);clear BK447;clear HB;have BK447:=n0_;have HB:=n1_;clear n0_ n1_;(try clear hb);(try clear hb2);(try clear hk);(try clear hi)))
        go_ret
        exact⟨by first|rfl|(simp [errW_none,errW_some]<;>rfl)|(simp [*,errW_none,errW_some]<;>rfl),by repeat(first|(with_reducible first|exact HB.out|apply z2q|apply z3q|apply z4q|refine z7q ?_ GE447.out)|exact HB.out)⟩
       ·rw [if_neg c15]at H
        exact absurd H (by simp)
      ·rw [if_neg c13]at H
       exact absurd H (by simp)
     ·replace c12:=Bool.eq_false_iff.mpr c12
      subst c12
      have H1:((strconv_Itoa.f a0_0).bind fun t451=>(if(x3_3 ++ t449).size+t451.size≤9223372036854775807 then(some ((x3_3 ++ t449) ++ t451))else(none)))=some r:=by rw [if_neg (show ¬ (false=true)by decide)]at H;exact H
      clear H
      have H:=H1
      clear H1
      replace H:=Option.bind_eq_some_iff.mp H
      obtain⟨t451,A200,H⟩:=H
      replace H:(if(x3_3 ++ t449).size+t451.size≤9223372036854775807 then(some ((x3_3 ++ t449) ++ t451))else(none))=some r:=H
      have A20:=Aside0.mk A200
      clear A200
      by_cases c21:(x3_3 ++ t449).size+t451.size≤9223372036854775807
      ·rw [if_pos c21]at H
       have c21b0:=eq_true c21
       have c21b1:decide ((x3_3 ++ t449).size+t451.size≤9223372036854775807)=true:=decide_eq_true c21
       try have c21b2:(9223372036854775807<(x3_3 ++ t449).size+t451.size)=False:=eq_false (Nat.not_lt.2 c21)
       try have c21b28:(9223372036854775807<(x3_3.size+t449.size)+t451.size)=False:=eq_false (Nat.not_lt.2 (by have h8_:=c21;simp only [ByteArray.size_append,ByteArray.size_extract,Nat.min_self,Nat.sub_zero]at h8_;exact h8_))
       obtain rfl:=Option.some.inj H
       obtain⟨hcz22_0,hcz22_1,hcz22_2,hcz22_3,hfz22_0,hfz22_1,hfz22_2,hfz22_3⟩:=cr4 (w:=wc) (g:=gb447) BK447.out
       go_wp2_with (first|((with_reducible refine z8q (f:=140) rfl ?_);refine z17q (some 12) rfl rfl Tryz.func140 (by kernel_rfl) rfl #[.int .i64 a0_1] rfl (by(try simp only [map_toArray,map_cons,map_nil]);first|done|rfl|(simp only [length_drop,length_take];rfl)) ?_;(with_reducible refine(impl_ColName.calls kj3 a0_1 t449 _ A10.out).mono ?_);rintro e w23 ⟨rfl,hb⟩;refine⟨_,rfl,?_⟩;have n0_:=Aside0.mk (z12q (cy BK447.out) hb);have n1_:=Aside0.mk (z5q (ibh HB.out) hb);clear BK447;clear HB;have BK447:=n0_;have HB:=n1_;clear n0_ n1_;(try clear hb);(try clear hb2);(try clear hk);(try clear hi);obtain⟨hcz24_0,hcz24_1,hcz24_2,hcz24_3,hfz24_0,hfz24_1,hfz24_2,hfz24_3⟩:=cr4 (w:=w23) (g:=gb447) BK447.out)|((with_reducible refine z8q (f:=101) rfl ?_);refine z17q (some 21) rfl rfl Tryz.func101 (by kernel_rfl) rfl #[.int .i64 a0_0] rfl (by(try simp only [map_toArray,map_cons,map_nil]);first|done|rfl|(simp only [length_drop,length_take];rfl)) ?_;(with_reducible refine(strconv_Itoa.calls a0_0 t451 _ (hT.below ib) A20.out).mono ?_);rintro e w25 ⟨rfl,hb⟩;refine⟨_,rfl,?_⟩;have n0_:=Aside0.mk (z12q (cy BK447.out) hb);have n1_:=Aside0.mk (z5q (ibh HB.out) hb);clear BK447;clear HB;have BK447:=n0_;have HB:=n1_;clear n0_ n1_;(try clear hb);(try clear hb2);(try clear hk);(try clear hi)))
       go_ret
       exact⟨by first|rfl|(simp [errW_none,errW_some]<;>rfl)|(simp [*,errW_none,errW_some]<;>rfl),by repeat(first|(with_reducible first|exact HB.out|apply z2q|apply z3q|apply z4q|refine z7q ?_ GE447.out)|exact HB.out)⟩
      ·rw [if_neg c21]at H
       exact absurd H (by simp)
    ·rw [if_neg c11]at H
     exact absurd H (by simp)
 ·replace c3:=Bool.eq_false_iff.mpr c3
  subst c3
  have H1:(some (⟨#[]⟩:ByteArray))=some r:=by rw [if_neg (show ¬ (false=true)by decide)]at H;exact H
  clear H
  have H:=H1
  clear H1
  obtain rfl:=Option.some.inj H
  go_enter Tryz.func123,Tryz.ntmps123
  go_wp2_with (first|((with_reducible refine z15q (N:=1) rfl ?_);refine z13q ?hg (N:=1) ?hd (cs:=#[.int .i64 a0_0,.int .i64 a0_1,.bool a0_2,.bool a0_3]) (t:=47) ?hr ?_;(case hd=>rfl);(case hg=>rfl);(case hr=>first|(go_simp;done)|(go_simp;rfl));intro gb447 hg w26 hbox hb;have n0_:=Aside0.mk (z5q (ibh HB.out) hb);have n1_:=Aside0.mk (hbox);have n2_:=Aside0.mk ((by rw [hg];exact(z6q (ibh HB.out)):w.heap.size≤gb447));have n3_:=Aside0.mk ((by rw [hg];exact(z6q (ibh HB.out)):w.heap.size≤gb447));clear HB;have HB:=n0_;have BK447:=n1_;have GW447:=n2_;have GE447:=n3_;clear n0_ n1_ n2_ n3_;clear hb hbox hg;obtain⟨hcz27_0,hcz27_1,hcz27_2,hcz27_3,hfz27_0,hfz27_1,hfz27_2,hfz27_3⟩:=cr4 (w:=w26) (g:=gb447) BK447.out)|((with_reducible refine z8q (f:=49) rfl ?_);refine z17q (some 5) rfl rfl Tryz.func49 (by kernel_rfl) rfl #[.agg #[.int .i64 a0_0,.int .i64 a0_1,.bool a0_2,.bool a0_3]] rfl (by(try simp only [map_toArray,map_cons,map_nil]);first|done|rfl|(simp only [length_drop,length_take];rfl)) ?_;(with_reducible refine(impl_GoodRef.calls a0_0 a0_1 a0_2 a0_3 false _ A2.out).mono ?_);rintro e w28 ⟨rfl,hb⟩;refine⟨_,rfl,?_⟩;have n0_:=Aside0.mk (z12q (cy BK447.out) hb);have n1_:=Aside0.mk (z5q (ibh HB.out) hb);clear BK447;clear HB;have BK447:=n0_;have HB:=n1_;clear n0_ n1_;(try clear hb);(try clear hb2);(try clear hk);(try clear hi)))
  go_ret
  exact⟨by first|rfl|(simp [errW_none,errW_some]<;>rfl)|(simp [*,errW_none,errW_some]<;>rfl),by repeat(first|(with_reducible first|exact HB.out|apply z2q|apply z3q|apply z4q|refine z7q ?_ GE447.out)|exact HB.out)⟩



/-! ### impl_ReadRef: function 107 -/

mutual
def impl_ReadRef.j0:Nat→ByteArray→ByteArray→Int→Int→Bool→Bool→Option (Int×Int×Bool×Bool×Bool)
 |0,_,_,_,_,_,_=>none
 |k+1,x0,x5,x454000,x454001,x454002,x454003=>impl_ReadRef.l0 k x0 x5 0 x454000 x454001 x454002 x454003
def impl_ReadRef.j2:Nat→ByteArray→ByteArray→Int→Int→Int→Bool→Bool→Option (Int×Int×Bool×Bool×Bool)
 |0,_,_,_,_,_,_,_=>none
 |k+1,x0,x5,x6,x454000,x454001,x454002,x454003=>if 0≤x6 then(if x6≤(x5.size:Int)then((impl_ColNumber.f k (x5.extract 0 (x6:Int).toNat)).bind fun t455=>((strings_HasPrefix.f (x5.extract (x6:Int).toNat x5.size) (⟨#[36]⟩:ByteArray)).bind fun t456=>(if t456=true then(if 1≤((x5.extract (x6:Int).toNat x5.size).size:Int)then(impl_ReadRef.j3 k x0 ((x5.extract (x6:Int).toNat x5.size).extract 1 (x5.extract (x6:Int).toNat x5.size).size) x454000 t455 true x454003)else(none))else(impl_ReadRef.j3 k x0 (x5.extract (x6:Int).toNat x5.size) x454000 t455 x454002 x454003))))else(none))else(none)
def impl_ReadRef.j3:Nat→ByteArray→ByteArray→Int→Int→Bool→Bool→Option (Int×Int×Bool×Bool×Bool)
 |0,_,_,_,_,_,_=>none
 |k+1,x0,x5,x454000,x454001,x454002,x454003=>(strconv_Atoi.f x5).bind fun bt457=>((impl_GoodRef.f bt457.1 x454001 x454002 x454003).bind fun t459=>(if t459=true then((impl_RefText.f k bt457.1 x454001 x454002 x454003).bind fun t460=>(if t460.toList=x0.toList then(some (bt457.1,x454001,x454002,x454003,true))else(some (0,0,false,false,false))))else(some (0,0,false,false,false))))
def impl_ReadRef.l0:Nat→ByteArray→ByteArray→Int→Int→Int→Bool→Bool→Option (Int×Int×Bool×Bool×Bool)
 |0,_,_,_,_,_,_,_=>none
 |k+1,x0,x5,x6,x454000,x454001,x454002,x454003=>if x6<(x5.size:Int)then(if 0≤x6 then(if(bt x5 x6)≥65 then(if(bt x5 x6)≤90 then(impl_ReadRef.l0 k x0 x5 (wrap64 (x6+1)) x454000 x454001 x454002 x454003)else(impl_ReadRef.j2 k x0 x5 x6 x454000 x454001 x454002 x454003))else(impl_ReadRef.j2 k x0 x5 x6 x454000 x454001 x454002 x454003))else(none))else(impl_ReadRef.j2 k x0 x5 x6 x454000 x454001 x454002 x454003)
end

def impl_ReadRef.f (k:Nat) (a0:ByteArray):Option (Int×Int×Bool×Bool×Bool):=if(a0.size:Int) > 12 then(some (0,0,false,false,false))else((strings_HasPrefix.f a0 (⟨#[36]⟩:ByteArray)).bind fun t454=>(if t454=true then(if 1≤(a0.size:Int)then(impl_ReadRef.j0 k a0 (a0.extract 1 a0.size) 0 0 false true)else(none))else(impl_ReadRef.j0 k a0 a0 0 0 false false)))

theorem impl_ReadRef.mono_l:∀ k,(∀ y0 y1 y2 y3 y4 y5,LeO (impl_ReadRef.j0 k y0 y1 y2 y3 y4 y5) (impl_ReadRef.j0 (k+1) y0 y1 y2 y3 y4 y5))∧(∀ y0 y1 y2 y3 y4 y5 y6,LeO (impl_ReadRef.j2 k y0 y1 y2 y3 y4 y5 y6) (impl_ReadRef.j2 (k+1) y0 y1 y2 y3 y4 y5 y6))∧(∀ y0 y1 y2 y3 y4 y5,LeO (impl_ReadRef.j3 k y0 y1 y2 y3 y4 y5) (impl_ReadRef.j3 (k+1) y0 y1 y2 y3 y4 y5))∧(∀ y0 y1 y2 y3 y4 y5 y6,LeO (impl_ReadRef.l0 k y0 y1 y2 y3 y4 y5 y6) (impl_ReadRef.l0 (k+1) y0 y1 y2 y3 y4 y5 y6))
 |0=>⟨fun _ _ _ _ _ _ r h=>by simp [impl_ReadRef.j0]at h,fun _ _ _ _ _ _ _ r h=>by simp [impl_ReadRef.j2]at h,fun _ _ _ _ _ _ r h=>by simp [impl_ReadRef.j3]at h,fun _ _ _ _ _ _ _ r h=>by simp [impl_ReadRef.l0]at h⟩
 |k+1=>by
  obtain⟨ih0,ih1,ih2,ih3⟩:=impl_ReadRef.mono_l k
  refine⟨?_,?_,?_,?_⟩
  ·intro y0 y1 y2 y3 y4 y5
   unfold impl_ReadRef.j0
   repeat' first
   |(with_reducible exact ih0 _ _ _ _ _ _)
   |(with_reducible exact ih1 _ _ _ _ _ _ _)
   |(with_reducible exact ih2 _ _ _ _ _ _)
   |(with_reducible exact ih3 _ _ _ _ _ _ _)
   |(with_reducible exact impl_ColNumber.mono _ _)
   |(with_reducible exact impl_RefText.mono _ _ _ _ _)
   |(with_reducible exact LeO.refl _)
   |(with_reducible exact LeO.none _)
   |(with_reducible refine LeO.ite ?_ ?_)
   |(with_reducible refine LeO.bind ?_ (fun _=> ?_))
   |exact ih0 _ _ _ _ _ _
   |exact ih1 _ _ _ _ _ _ _
   |exact ih2 _ _ _ _ _ _
   |exact ih3 _ _ _ _ _ _ _
   |exact impl_ColNumber.mono _ _
   |exact impl_RefText.mono _ _ _ _ _
   |exact LeO.none _
   |refine LeO.ite ?_ ?_
   |refine LeO.bind ?_ (fun _=> ?_)
  ·intro y0 y1 y2 y3 y4 y5 y6
   unfold impl_ReadRef.j2
   repeat' first
   |(with_reducible exact ih0 _ _ _ _ _ _)
   |(with_reducible exact ih1 _ _ _ _ _ _ _)
   |(with_reducible exact ih2 _ _ _ _ _ _)
   |(with_reducible exact ih3 _ _ _ _ _ _ _)
   |(with_reducible exact impl_ColNumber.mono _ _)
   |(with_reducible exact impl_RefText.mono _ _ _ _ _)
   |(with_reducible exact LeO.refl _)
   |(with_reducible exact LeO.none _)
   |(with_reducible refine LeO.ite ?_ ?_)
   |(with_reducible refine LeO.bind ?_ (fun _=> ?_))
   |exact ih0 _ _ _ _ _ _
   |exact ih1 _ _ _ _ _ _ _
   |exact ih2 _ _ _ _ _ _
   |exact ih3 _ _ _ _ _ _ _
   |exact impl_ColNumber.mono _ _
   |exact impl_RefText.mono _ _ _ _ _
   |exact LeO.none _
   |refine LeO.ite ?_ ?_
   |refine LeO.bind ?_ (fun _=> ?_)
  ·intro y0 y1 y2 y3 y4 y5
   unfold impl_ReadRef.j3
   repeat' first
   |(with_reducible exact ih0 _ _ _ _ _ _)
   |(with_reducible exact ih1 _ _ _ _ _ _ _)
   |(with_reducible exact ih2 _ _ _ _ _ _)
   |(with_reducible exact ih3 _ _ _ _ _ _ _)
   |(with_reducible exact impl_ColNumber.mono _ _)
   |(with_reducible exact impl_RefText.mono _ _ _ _ _)
   |(with_reducible exact LeO.refl _)
   |(with_reducible exact LeO.none _)
   |(with_reducible refine LeO.ite ?_ ?_)
   |(with_reducible refine LeO.bind ?_ (fun _=> ?_))
   |exact ih0 _ _ _ _ _ _
   |exact ih1 _ _ _ _ _ _ _
   |exact ih2 _ _ _ _ _ _
   |exact ih3 _ _ _ _ _ _ _
   |exact impl_ColNumber.mono _ _
   |exact impl_RefText.mono _ _ _ _ _
   |exact LeO.none _
   |refine LeO.ite ?_ ?_
   |refine LeO.bind ?_ (fun _=> ?_)
  ·intro y0 y1 y2 y3 y4 y5 y6
   unfold impl_ReadRef.l0
   repeat' first
   |(with_reducible exact ih0 _ _ _ _ _ _)
   |(with_reducible exact ih1 _ _ _ _ _ _ _)
   |(with_reducible exact ih2 _ _ _ _ _ _)
   |(with_reducible exact ih3 _ _ _ _ _ _ _)
   |(with_reducible exact impl_ColNumber.mono _ _)
   |(with_reducible exact impl_RefText.mono _ _ _ _ _)
   |(with_reducible exact LeO.refl _)
   |(with_reducible exact LeO.none _)
   |(with_reducible refine LeO.ite ?_ ?_)
   |(with_reducible refine LeO.bind ?_ (fun _=> ?_))
   |exact ih0 _ _ _ _ _ _
   |exact ih1 _ _ _ _ _ _ _
   |exact ih2 _ _ _ _ _ _
   |exact ih3 _ _ _ _ _ _ _
   |exact impl_ColNumber.mono _ _
   |exact impl_RefText.mono _ _ _ _ _
   |exact LeO.none _
   |refine LeO.ite ?_ ?_
   |refine LeO.bind ?_ (fun _=> ?_)

theorem impl_ReadRef.mono:∀ a0 k,LeO (impl_ReadRef.f k a0) (impl_ReadRef.f (k+1) a0):=by
 intro a0 k
 obtain⟨ih0,ih1,ih2,ih3⟩:=impl_ReadRef.mono_l k
 unfold impl_ReadRef.f
 repeat' first
   |(with_reducible exact ih0 _ _ _ _ _ _)
   |(with_reducible exact ih1 _ _ _ _ _ _ _)
   |(with_reducible exact ih2 _ _ _ _ _ _)
   |(with_reducible exact ih3 _ _ _ _ _ _ _)
   |(with_reducible exact impl_ColNumber.mono _ _)
   |(with_reducible exact impl_RefText.mono _ _ _ _ _)
   |(with_reducible exact LeO.refl _)
   |(with_reducible exact LeO.none _)
   |(with_reducible refine LeO.ite ?_ ?_)
   |(with_reducible refine LeO.bind ?_ (fun _=> ?_))
   |exact ih0 _ _ _ _ _ _
   |exact ih1 _ _ _ _ _ _ _
   |exact ih2 _ _ _ _ _ _
   |exact ih3 _ _ _ _ _ _ _
   |exact impl_ColNumber.mono _ _
   |exact impl_RefText.mono _ _ _ _ _
   |exact LeO.none _
   |refine LeO.ite ?_ ?_
   |refine LeO.bind ?_ (fun _=> ?_)

set_option maxHeartbeats 8000000 in
set_option maxRecDepth 100000 in
theorem impl_ReadRef.calls_p1 (k:Nat) (a0:ByteArray) (r1:Int) (r2:Int) (r3:Bool) (r4:Bool) (r5:Bool) (w:World) (hT:Tab w) (c2:(a0.size:Int) > 12) (H:(some (0,0,false,false,false))=some (r1,r2,r3,r4,r5)):
  Calls Tryz.prog 107 #[.string a0] w fun e w'=>e= .returned (.tuple #[.agg #[.int .i64 r1,.int .i64 r2,.bool r3,.bool r4],.bool r5])∧Below w.heap.size w w':=by
 have hu47:=Tryz.underlying47
 have HB:=Aside0.mk (Below.refl w.heap.size w)
 have c2b0:decide (12<(a0.size:Int))=true:=decide_eq_true c2
 have c2b1:decide (12<a0.size)=true:=decide_eq_true (by omega)
 clear c2
 simp only [Option.some.injEq,Prod.mk.injEq]at H
 obtain⟨rfl,rfl,rfl,rfl,rfl⟩:=H
 go_enter Tryz.func107,Tryz.ntmps107
 go_wp2_with (first|((with_reducible refine z15q (N:=2) rfl ?_);refine z13q ?hg (N:=2) ?hd (cs:=#[.int .i64 0,.int .i64 0,.bool false,.bool false]) (t:=47) ?hr ?_;(case hd=>rfl);(case hg=>rfl);(case hr=>first|(go_simp;done)|(go_simp;rfl));intro gb452 hg w3 hbox hb;have n0_:=Aside0.mk (z5q (ibh HB.out) hb);have n1_:=Aside0.mk (hbox);have n2_:=Aside0.mk ((by rw [hg];exact(z6q (ibh HB.out)):w.heap.size≤gb452));have n3_:=Aside0.mk ((by rw [hg];exact(z6q (ibh HB.out)):w.heap.size≤gb452));clear HB;have HB:=n0_;have BK452:=n1_;have GW452:=n2_;have GE452:=n3_;clear n0_ n1_ n2_ n3_;clear hb hbox hg;obtain⟨hcz4_0,hcz4_1,hcz4_2,hcz4_3,hfz4_0,hfz4_1,hfz4_2,hfz4_3⟩:=cr4 (w:=w3) (g:=gb452) BK452.out))
 refine bodyPost_ret (results_ct rfl _ _ gb452 47 #[.int .i64 0,.int .i64 0,.bool false,.bool false] (0,0) _ rfl (by refine cz ?_;refine z11q (cs:=#[.int .i64 0,.int .i64 0,.bool false,.bool false]) ?_ 3 _ rfl;refine cz ?_;refine z11q (cs:=#[.int .i64 0,.int .i64 0,.bool false,.bool false]) ?_ 2 _ rfl;refine cz ?_;refine z11q (cs:=#[.int .i64 0,.int .i64 0,.bool false,.bool false]) ?_ 1 _ rfl;refine cz ?_;refine z11q (cs:=#[.int .i64 0,.int .i64 0,.bool false,.bool false]) ?_ 0 _ rfl;exact cy BK452.out) Tryz.underlying47 rfl (by kernel_rfl)) rfl ?_
 exact⟨by first|rfl|(simp [errW_none,errW_some]<;>rfl)|(simp [*,errW_none,errW_some]<;>rfl),by repeat(first|(with_reducible first|exact HB.out|apply z2q|apply z3q|apply z4q|refine z7q ?_ GE452.out)|exact HB.out)⟩

end Go.Proofs.YtegdpgpbdcediaaGreatDoor.PFnExactUsedNames
