/- Functions of the program as Lean functions, and proofs that the Go code comes to their answers: for the law FnExactUsedNames; made out of the print by a program of mine (compact.py). No conditions but each theorem's own. -/
import Derived.Test.YtegdpgpbdcediaaGreatDoorMFnExactUsedNamesa0
import Derived.Test.YtegdpgpbdcediaaGreatDoorMFnExactUsedNamesa2
namespace Go.Proofs.YtegdpgpbdcediaaGreatDoor.PFnExactUsedNames
open List (map_toArray map_cons map_nil length_drop length_take set_cons_zero set_cons_succ setIfInBounds_toArray)
open Go.RowKit Go.Proofs.YtegdpgpbdcediaaGreatDoorW.PrintWords Go.Proofs.YtegdpgpbdcediaaGreatDoorW.PrintLast Go.Proofs.YtegdpgpbdcediaaGreatDoorW.PrintMore
attribute [local go_sem] max2_int min2_int max_two min_two max_three min_three max_four min_four   -- for this text's walks alone
set_option linter.unusedVariables false
set_option linter.unusedSimpArgs false

attribute [local go_sem high] eqA47 eqA65
set_option maxHeartbeats 8000000 in
set_option maxRecDepth 100000 in
theorem spec_GoodRef.calls (a0_0:Int) (a0_1:Int) (a0_2:Bool) (a0_3:Bool) (r:Bool) (w:World) (h:spec_GoodRef.f a0_0 a0_1 a0_2 a0_3=some r):
  Calls Tryz.prog 44 #[.agg #[.int .i64 a0_0,.int .i64 a0_1,.bool a0_2,.bool a0_3]] w fun e w'=>e= .returned (.bool r)∧Below w.heap.size w w':=by
 have hu47:=Tryz.underlying47
 have HB:=Aside0.mk (Below.refl w.heap.size w)
 have H:(if a0_0≥1 then(if a0_0≤1000 then(if a0_1≥1 then(some (decide (a0_1≤200)))else(some false))else(some false))else(some false))=some r:=h
 clear h
 by_cases c2:a0_0≥1
 ·rw [if_pos c2]at H
  have c2b0:decide (1≤a0_0)=true:=decide_eq_true c2
  clear c2
  by_cases c3:a0_0≤1000
  ·rw [if_pos c3]at H
   have c3b0:decide (a0_0≤1000)=true:=decide_eq_true c3
   clear c3
   by_cases c4:a0_1≥1
   ·rw [if_pos c4]at H
    have c4b0:decide (1≤a0_1)=true:=decide_eq_true c4
    clear c4
    obtain rfl:=Option.some.inj H
    go_enter Tryz.func44,Tryz.ntmps44
    go_wp2_with (first|((with_reducible refine z15q (N:=1) rfl ?_);refine z13q ?hg (N:=1) ?hd (cs:=#[.int .i64 a0_0,.int .i64 a0_1,.bool a0_2,.bool a0_3]) (t:=47) ?hr ?_;(case hd=>rfl);(case hg=>rfl);(case hr=>first|(go_simp;done)|(go_simp;rfl));intro gb186 hg w5 hbox hb;have n0_:=Aside0.mk (z5q (ibh HB.out) hb);have n1_:=Aside0.mk (hbox);have n2_:=Aside0.mk ((by rw [hg];exact(z6q (ibh HB.out)):w.heap.size≤gb186));have n3_:=Aside0.mk ((by rw [hg];exact(z6q (ibh HB.out)):w.heap.size≤gb186));clear HB;have HB:=n0_;have BK186:=n1_;have GW186:=n2_;have GE186:=n3_;clear n0_ n1_ n2_ n3_;clear hb hbox hg;obtain⟨hcz6_0,hcz6_1,hcz6_2,hcz6_3,hfz6_0,hfz6_1,hfz6_2,hfz6_3⟩:=cr4 (w:=w5) (g:=gb186) BK186.out))
    go_ret
    exact⟨by first|rfl|(simp [errW_none,errW_some]<;>rfl)|(simp [*,errW_none,errW_some]<;>rfl),by repeat(first|(with_reducible first|exact HB.out|apply z2q|apply z3q|apply z4q|refine z7q ?_ GE186.out)|exact HB.out)⟩
   ·rw [if_neg c4]at H
    have c4b0:decide (1≤a0_1)=false:=decide_eq_false c4
    clear c4
    obtain rfl:=Option.some.inj H
    go_enter Tryz.func44,Tryz.ntmps44
    go_wp2_with (first|((with_reducible refine z15q (N:=1) rfl ?_);refine z13q ?hg (N:=1) ?hd (cs:=#[.int .i64 a0_0,.int .i64 a0_1,.bool a0_2,.bool a0_3]) (t:=47) ?hr ?_;(case hd=>rfl);(case hg=>rfl);(case hr=>first|(go_simp;done)|(go_simp;rfl));intro gb186 hg w7 hbox hb;have n0_:=Aside0.mk (z5q (ibh HB.out) hb);have n1_:=Aside0.mk (hbox);have n2_:=Aside0.mk ((by rw [hg];exact(z6q (ibh HB.out)):w.heap.size≤gb186));have n3_:=Aside0.mk ((by rw [hg];exact(z6q (ibh HB.out)):w.heap.size≤gb186));clear HB;have HB:=n0_;have BK186:=n1_;have GW186:=n2_;have GE186:=n3_;clear n0_ n1_ n2_ n3_;clear hb hbox hg;obtain⟨hcz8_0,hcz8_1,hcz8_2,hcz8_3,hfz8_0,hfz8_1,hfz8_2,hfz8_3⟩:=cr4 (w:=w7) (g:=gb186) BK186.out))
    go_ret
    exact⟨by first|rfl|(simp [errW_none,errW_some]<;>rfl)|(simp [*,errW_none,errW_some]<;>rfl),by repeat(first|(with_reducible first|exact HB.out|apply z2q|apply z3q|apply z4q|refine z7q ?_ GE186.out)|exact HB.out)⟩
  ·rw [if_neg c3]at H
   have c3b0:decide (a0_0≤1000)=false:=decide_eq_false c3
   clear c3
   obtain rfl:=Option.some.inj H
   go_enter Tryz.func44,Tryz.ntmps44
   go_wp2_with (first|((with_reducible refine z15q (N:=1) rfl ?_);refine z13q ?hg (N:=1) ?hd (cs:=#[.int .i64 a0_0,.int .i64 a0_1,.bool a0_2,.bool a0_3]) (t:=47) ?hr ?_;(case hd=>rfl);(case hg=>rfl);(case hr=>first|(go_simp;done)|(go_simp;rfl));intro gb186 hg w9 hbox hb;have n0_:=Aside0.mk (z5q (ibh HB.out) hb);have n1_:=Aside0.mk (hbox);have n2_:=Aside0.mk ((by rw [hg];exact(z6q (ibh HB.out)):w.heap.size≤gb186));have n3_:=Aside0.mk ((by rw [hg];exact(z6q (ibh HB.out)):w.heap.size≤gb186));clear HB;have HB:=n0_;have BK186:=n1_;have GW186:=n2_;have GE186:=n3_;clear n0_ n1_ n2_ n3_;clear hb hbox hg;obtain⟨hcz10_0,hcz10_1,hcz10_2,hcz10_3,hfz10_0,hfz10_1,hfz10_2,hfz10_3⟩:=cr4 (w:=w9) (g:=gb186) BK186.out))
   go_ret
   exact⟨by first|rfl|(simp [errW_none,errW_some]<;>rfl)|(simp [*,errW_none,errW_some]<;>rfl),by repeat(first|(with_reducible first|exact HB.out|apply z2q|apply z3q|apply z4q|refine z7q ?_ GE186.out)|exact HB.out)⟩
 ·rw [if_neg c2]at H
  have c2b0:decide (1≤a0_0)=false:=decide_eq_false c2
  clear c2
  obtain rfl:=Option.some.inj H
  go_enter Tryz.func44,Tryz.ntmps44
  go_wp2_with (first|((with_reducible refine z15q (N:=1) rfl ?_);refine z13q ?hg (N:=1) ?hd (cs:=#[.int .i64 a0_0,.int .i64 a0_1,.bool a0_2,.bool a0_3]) (t:=47) ?hr ?_;(case hd=>rfl);(case hg=>rfl);(case hr=>first|(go_simp;done)|(go_simp;rfl));intro gb186 hg w11 hbox hb;have n0_:=Aside0.mk (z5q (ibh HB.out) hb);have n1_:=Aside0.mk (hbox);have n2_:=Aside0.mk ((by rw [hg];exact(z6q (ibh HB.out)):w.heap.size≤gb186));have n3_:=Aside0.mk ((by rw [hg];exact(z6q (ibh HB.out)):w.heap.size≤gb186));clear HB;have HB:=n0_;have BK186:=n1_;have GW186:=n2_;have GE186:=n3_;clear n0_ n1_ n2_ n3_;clear hb hbox hg;obtain⟨hcz12_0,hcz12_1,hcz12_2,hcz12_3,hfz12_0,hfz12_1,hfz12_2,hfz12_3⟩:=cr4 (w:=w11) (g:=gb186) BK186.out))
  go_ret
  exact⟨by first|rfl|(simp [errW_none,errW_some]<;>rfl)|(simp [*,errW_none,errW_some]<;>rfl),by repeat(first|(with_reducible first|exact HB.out|apply z2q|apply z3q|apply z4q|refine z7q ?_ GE186.out)|exact HB.out)⟩



/-! ### spec_GoodDec: function 111 -/

def spec_GoodDec.f (a0_0:Bool) (a0_1:Int) (a0_2:Int):Option (Bool):=if a0_1=0 then(some (!a0_0 && (a0_1==0 && (a0_2==0))))else(if a0_1 > 0 then(if a0_1<1000000000000000 then(if(Int.tmod a0_1 10)=0 then(some false)else(if a0_2≥(-300)then(some (decide (a0_2≤300)))else(some false)))else(some false))else(some false))

set_option maxHeartbeats 8000000 in
set_option maxRecDepth 100000 in
theorem spec_GoodDec.calls (a0_0:Bool) (a0_1:Int) (a0_2:Int) (r:Bool) (w:World) (h:spec_GoodDec.f a0_0 a0_1 a0_2=some r):
  Calls Tryz.prog 111 #[.agg #[.bool a0_0,.int .i64 a0_1,.int .i64 a0_2]] w fun e w'=>e= .returned (.bool r)∧Below w.heap.size w w':=by
 have hu65:=Tryz.underlying65
 have HB:=Aside0.mk (Below.refl w.heap.size w)
 have H:(if a0_1=0 then(some (!a0_0 && (a0_1==0 && (a0_2==0))))else(if a0_1 > 0 then(if a0_1<1000000000000000 then(if(Int.tmod a0_1 10)=0 then(some false)else(if a0_2≥(-300)then(some (decide (a0_2≤300)))else(some false)))else(some false))else(some false)))=some r:=h
 clear h
 by_cases c2:a0_1=0
 ·rw [if_pos c2]at H
  have c2b0:(a0_1==0)=true:=beq_iff_eq.mpr c2
  have c2b1:(a0_1 !=0)=false:=bne_eq_false_iff_eq.mpr c2
  clear c2
  obtain rfl:=Option.some.inj H
  go_enter Tryz.func111,Tryz.ntmps111
  go_wp2_with (first|((with_reducible refine z15q (N:=1) rfl ?_);refine z13q ?hg (N:=1) ?hd (cs:=#[.bool a0_0,.int .i64 a0_1,.int .i64 a0_2]) (t:=65) ?hr ?_;(case hd=>rfl);(case hg=>rfl);(case hr=>first|(go_simp;done)|(go_simp;rfl));intro gb187 hg w3 hbox hb;have n0_:=Aside0.mk (z5q (ibh HB.out) hb);have n1_:=Aside0.mk (hbox);have n2_:=Aside0.mk ((by rw [hg];exact(z6q (ibh HB.out)):w.heap.size≤gb187));have n3_:=Aside0.mk ((by rw [hg];exact(z6q (ibh HB.out)):w.heap.size≤gb187));clear HB;have HB:=n0_;have BK187:=n1_;have GW187:=n2_;have GE187:=n3_;clear n0_ n1_ n2_ n3_;clear hb hbox hg;obtain⟨hcz4_0,hcz4_1,hcz4_2,hfz4_0,hfz4_1,hfz4_2⟩:=cr3 (w:=w3) (g:=gb187) BK187.out))
  go_ret
  exact⟨by first|rfl|(simp [errW_none,errW_some]<;>rfl)|(simp [*,errW_none,errW_some]<;>rfl),by repeat(first|(with_reducible first|exact HB.out|apply z2q|apply z3q|apply z4q|refine z7q ?_ GE187.out)|exact HB.out)⟩
 ·rw [if_neg c2]at H
  have c2b0:(a0_1==0)=false:=beq_eq_false_iff_ne.mpr c2
  have c2b1:(a0_1 !=0)=true:=bne_iff_ne.mpr c2
  by_cases c5:a0_1 > 0
  ·rw [if_pos c5]at H
   have c5b0:decide (0<a0_1)=true:=decide_eq_true c5
   clear c5
   by_cases c6:a0_1<1000000000000000
   ·rw [if_pos c6]at H
    have c6b0:decide (a0_1<1000000000000000)=true:=decide_eq_true c6
    clear c6
    by_cases c7:(Int.tmod a0_1 10)=0
    ·rw [if_pos c7]at H
     have c7b0:((Int.tmod a0_1 10)==0)=true:=beq_iff_eq.mpr c7
     have c7b1:((Int.tmod a0_1 10) !=0)=false:=bne_eq_false_iff_eq.mpr c7
     clear c7
     obtain rfl:=Option.some.inj H
     go_enter Tryz.func111,Tryz.ntmps111
     go_wp2_with (first|((with_reducible refine z15q (N:=1) rfl ?_);refine z13q ?hg (N:=1) ?hd (cs:=#[.bool a0_0,.int .i64 a0_1,.int .i64 a0_2]) (t:=65) ?hr ?_;(case hd=>rfl);(case hg=>rfl);(case hr=>first|(go_simp;done)|(go_simp;rfl));intro gb187 hg w8 hbox hb;have n0_:=Aside0.mk (z5q (ibh HB.out) hb);have n1_:=Aside0.mk (hbox);have n2_:=Aside0.mk ((by rw [hg];exact(z6q (ibh HB.out)):w.heap.size≤gb187));have n3_:=Aside0.mk ((by rw [hg];exact(z6q (ibh HB.out)):w.heap.size≤gb187));clear HB;have HB:=n0_;have BK187:=n1_;have GW187:=n2_;have GE187:=n3_;clear n0_ n1_ n2_ n3_;clear hb hbox hg;obtain⟨hcz9_0,hcz9_1,hcz9_2,hfz9_0,hfz9_1,hfz9_2⟩:=cr3 (w:=w8) (g:=gb187) BK187.out))
     go_ret
     exact⟨by first|rfl|(simp [errW_none,errW_some]<;>rfl)|(simp [*,errW_none,errW_some]<;>rfl),by repeat(first|(with_reducible first|exact HB.out|apply z2q|apply z3q|apply z4q|refine z7q ?_ GE187.out)|exact HB.out)⟩
    ·rw [if_neg c7]at H
     have c7b0:((Int.tmod a0_1 10)==0)=false:=beq_eq_false_iff_ne.mpr c7
     have c7b1:((Int.tmod a0_1 10) !=0)=true:=bne_iff_ne.mpr c7
     by_cases c10:a0_2≥(-300)
     ·rw [if_pos c10]at H
      have c10b0:decide ((-300)≤a0_2)=true:=decide_eq_true c10
      clear c10
      obtain rfl:=Option.some.inj H
      go_enter Tryz.func111,Tryz.ntmps111
      go_wp2_with (first|((with_reducible refine z15q (N:=1) rfl ?_);refine z13q ?hg (N:=1) ?hd (cs:=#[.bool a0_0,.int .i64 a0_1,.int .i64 a0_2]) (t:=65) ?hr ?_;(case hd=>rfl);(case hg=>rfl);(case hr=>first|(go_simp;done)|(go_simp;rfl));intro gb187 hg w11 hbox hb;have n0_:=Aside0.mk (z5q (ibh HB.out) hb);have n1_:=Aside0.mk (hbox);have n2_:=Aside0.mk ((by rw [hg];exact(z6q (ibh HB.out)):w.heap.size≤gb187));have n3_:=Aside0.mk ((by rw [hg];exact(z6q (ibh HB.out)):w.heap.size≤gb187));clear HB;have HB:=n0_;have BK187:=n1_;have GW187:=n2_;have GE187:=n3_;clear n0_ n1_ n2_ n3_;clear hb hbox hg;obtain⟨hcz12_0,hcz12_1,hcz12_2,hfz12_0,hfz12_1,hfz12_2⟩:=cr3 (w:=w11) (g:=gb187) BK187.out))
      go_ret
      exact⟨by first|rfl|(simp [errW_none,errW_some]<;>rfl)|(simp [*,errW_none,errW_some]<;>rfl),by repeat(first|(with_reducible first|exact HB.out|apply z2q|apply z3q|apply z4q|refine z7q ?_ GE187.out)|exact HB.out)⟩
     ·rw [if_neg c10]at H
      have c10b0:decide ((-300)≤a0_2)=false:=decide_eq_false c10
      clear c10
      obtain rfl:=Option.some.inj H
      go_enter Tryz.func111,Tryz.ntmps111
      go_wp2_with (first|((with_reducible refine z15q (N:=1) rfl ?_);refine z13q ?hg (N:=1) ?hd (cs:=#[.bool a0_0,.int .i64 a0_1,.int .i64 a0_2]) (t:=65) ?hr ?_;(case hd=>rfl);(case hg=>rfl);(case hr=>first|(go_simp;done)|(go_simp;rfl));intro gb187 hg w13 hbox hb;have n0_:=Aside0.mk (z5q (ibh HB.out) hb);have n1_:=Aside0.mk (hbox);have n2_:=Aside0.mk ((by rw [hg];exact(z6q (ibh HB.out)):w.heap.size≤gb187));have n3_:=Aside0.mk ((by rw [hg];exact(z6q (ibh HB.out)):w.heap.size≤gb187));clear HB;have HB:=n0_;have BK187:=n1_;have GW187:=n2_;have GE187:=n3_;clear n0_ n1_ n2_ n3_;clear hb hbox hg;obtain⟨hcz14_0,hcz14_1,hcz14_2,hfz14_0,hfz14_1,hfz14_2⟩:=cr3 (w:=w13) (g:=gb187) BK187.out))
      go_ret
      exact⟨by first|rfl|(simp [errW_none,errW_some]<;>rfl)|(simp [*,errW_none,errW_some]<;>rfl),by repeat(first|(with_reducible first|exact HB.out|apply z2q|apply z3q|apply z4q|refine z7q ?_ GE187.out)|exact HB.out)⟩
   ·rw [if_neg c6]at H
    have c6b0:decide (a0_1<1000000000000000)=false:=decide_eq_false c6
    clear c6
    obtain rfl:=Option.some.inj H
    go_enter Tryz.func111,Tryz.ntmps111
    go_wp2_with (first|((with_reducible refine z15q (N:=1) rfl ?_);refine z13q ?hg (N:=1) ?hd (cs:=#[.bool a0_0,.int .i64 a0_1,.int .i64 a0_2]) (t:=65) ?hr ?_;(case hd=>rfl);(case hg=>rfl);(case hr=>first|(go_simp;done)|(go_simp;rfl));intro gb187 hg w15 hbox hb;have n0_:=Aside0.mk (z5q (ibh HB.out) hb);have n1_:=Aside0.mk (hbox);have n2_:=Aside0.mk ((by rw [hg];exact(z6q (ibh HB.out)):w.heap.size≤gb187));have n3_:=Aside0.mk ((by rw [hg];exact(z6q (ibh HB.out)):w.heap.size≤gb187));clear HB;have HB:=n0_;have BK187:=n1_;have GW187:=n2_;have GE187:=n3_;clear n0_ n1_ n2_ n3_;clear hb hbox hg;obtain⟨hcz16_0,hcz16_1,hcz16_2,hfz16_0,hfz16_1,hfz16_2⟩:=cr3 (w:=w15) (g:=gb187) BK187.out))
    go_ret
    exact⟨by first|rfl|(simp [errW_none,errW_some]<;>rfl)|(simp [*,errW_none,errW_some]<;>rfl),by repeat(first|(with_reducible first|exact HB.out|apply z2q|apply z3q|apply z4q|refine z7q ?_ GE187.out)|exact HB.out)⟩
  ·rw [if_neg c5]at H
   have c5b0:decide (0<a0_1)=false:=decide_eq_false c5
   clear c5
   obtain rfl:=Option.some.inj H
   go_enter Tryz.func111,Tryz.ntmps111
   go_wp2_with (first|((with_reducible refine z15q (N:=1) rfl ?_);refine z13q ?hg (N:=1) ?hd (cs:=#[.bool a0_0,.int .i64 a0_1,.int .i64 a0_2]) (t:=65) ?hr ?_;(case hd=>rfl);(case hg=>rfl);(case hr=>first|(go_simp;done)|(go_simp;rfl));intro gb187 hg w17 hbox hb;have n0_:=Aside0.mk (z5q (ibh HB.out) hb);have n1_:=Aside0.mk (hbox);have n2_:=Aside0.mk ((by rw [hg];exact(z6q (ibh HB.out)):w.heap.size≤gb187));have n3_:=Aside0.mk ((by rw [hg];exact(z6q (ibh HB.out)):w.heap.size≤gb187));clear HB;have HB:=n0_;have BK187:=n1_;have GW187:=n2_;have GE187:=n3_;clear n0_ n1_ n2_ n3_;clear hb hbox hg;obtain⟨hcz18_0,hcz18_1,hcz18_2,hfz18_0,hfz18_1,hfz18_2⟩:=cr3 (w:=w17) (g:=gb187) BK187.out))
   go_ret
   exact⟨by first|rfl|(simp [errW_none,errW_some]<;>rfl)|(simp [*,errW_none,errW_some]<;>rfl),by repeat(first|(with_reducible first|exact HB.out|apply z2q|apply z3q|apply z4q|refine z7q ?_ GE187.out)|exact HB.out)⟩



/-! ### spec_l4Bare: function 112 -/

def spec_l4Bare.f (a0_0:Int) (a0_1:ByteArray) (a0_2:Bool) (a0_3:Int) (a0_4:Int) (a0_5:Int) (a0_6:Int) (a0_7:Bool) (a0_8:Bool) (a0_9:Int) (a0_10:Int) (a0_11:Bool) (a0_12:Bool) (a0_13:Int):Option (Bool):=if(!a0_2 && (a0_3==0 && (a0_4==0)))=true then(if(a0_5==0 && (a0_6==0 && (!a0_7 && (!a0_8))))=true then(some (a0_9==0 && (a0_10==0 && (!a0_11 && (!a0_12)))))else(some false))else(some false)

set_option maxHeartbeats 8000000 in
set_option maxRecDepth 100000 in
theorem spec_l4Bare.calls (a0_0:Int) (a0_1:ByteArray) (a0_2:Bool) (a0_3:Int) (a0_4:Int) (a0_5:Int) (a0_6:Int) (a0_7:Bool) (a0_8:Bool) (a0_9:Int) (a0_10:Int) (a0_11:Bool) (a0_12:Bool) (a0_13:Int) (r:Bool) (w:World) (h:spec_l4Bare.f a0_0 a0_1 a0_2 a0_3 a0_4 a0_5 a0_6 a0_7 a0_8 a0_9 a0_10 a0_11 a0_12 a0_13=some r):
  Calls Tryz.prog 112 #[.agg #[.int .i64 a0_0,.string a0_1,.bool a0_2,.int .i64 a0_3,.int .i64 a0_4,.int .i64 a0_5,.int .i64 a0_6,.bool a0_7,.bool a0_8,.int .i64 a0_9,.int .i64 a0_10,.bool a0_11,.bool a0_12,.int .i64 a0_13]] w fun e w'=>e= .returned (.bool r)∧Below w.heap.size w w':=by
 have hu67:=Tryz.underlying67
 have hu65:=Tryz.underlying65
 have hu47:=Tryz.underlying47
 have HB:=Aside0.mk (Below.refl w.heap.size w)
 have H:(if(!a0_2 && (a0_3==0 && (a0_4==0)))=true then(if(a0_5==0 && (a0_6==0 && (!a0_7 && (!a0_8))))=true then(some (a0_9==0 && (a0_10==0 && (!a0_11 && (!a0_12)))))else(some false))else(some false))=some r:=h
 clear h
 by_cases c2:(!a0_2 && (a0_3==0 && (a0_4==0)))=true
 ·rw [if_pos c2]at H
  have c2b0:(!a0_2 && (a0_3==0 && (a0_4==0)))=true:=c2
  clear c2
  by_cases c3:(a0_5==0 && (a0_6==0 && (!a0_7 && (!a0_8))))=true
  ·rw [if_pos c3]at H
   have c3b0:(a0_5==0 && (a0_6==0 && (!a0_7 && (!a0_8))))=true:=c3
   (try(have c3b1:decide (a0_5=0 && (a0_6==0 && (!a0_7 && (!a0_8))))=true:=by simpa using c3))
   (try(have c3b2:(a0_5==0 && (a0_6==0 && (!a0_7 && (!a0_8))))=true:=by simpa using c3))
   clear c3
   obtain rfl:=Option.some.inj H
   go_enter Tryz.func112,Tryz.ntmps112
   go_wp2_with (first|((with_reducible refine z15q (N:=1) rfl ?_);refine z13q ?hg (N:=1) ?hd (cs:=#[.int .i64 a0_0,.string a0_1,.bool a0_2,.int .i64 a0_3,.int .i64 a0_4,.int .i64 a0_5,.int .i64 a0_6,.bool a0_7,.bool a0_8,.int .i64 a0_9,.int .i64 a0_10,.bool a0_11,.bool a0_12,.int .i64 a0_13]) (t:=67) ?hr ?_;(case hd=>rfl);(case hg=>rfl);(case hr=>first|(go_simp;done)|(go_simp;rfl));intro gb188 hg w4 hbox hb;have n0_:=Aside0.mk (z5q (ibh HB.out) hb);have n1_:=Aside0.mk (hbox);have n2_:=Aside0.mk ((by rw [hg];exact(z6q (ibh HB.out)):w.heap.size≤gb188));have n3_:=Aside0.mk ((by rw [hg];exact(z6q (ibh HB.out)):w.heap.size≤gb188));clear HB;have HB:=n0_;have BK188:=n1_;have GW188:=n2_;have GE188:=n3_;clear n0_ n1_ n2_ n3_;clear hb hbox hg;obtain⟨hcz5_0,hcz5_1,hcz5_2,hcz5_3,hcz5_4,hcz5_5,hcz5_6,hcz5_7,hcz5_8,hcz5_9,hcz5_10,hcz5_11,hcz5_12,hcz5_13,hfz5_0,hfz5_1,hfz5_2,hfz5_3,hfz5_4,hfz5_5,hfz5_6,hfz5_7,hfz5_8,hfz5_9,hfz5_10,hfz5_11,hfz5_12,hfz5_13⟩:=cr14 (w:=w4) (g:=gb188) BK188.out))
   go_ret
   exact⟨by first|rfl|(simp [errW_none,errW_some]<;>rfl)|(simp [*,errW_none,errW_some]<;>rfl),by repeat(first|(with_reducible first|exact HB.out|apply z2q|apply z3q|apply z4q|refine z7q ?_ GE188.out)|exact HB.out)⟩
  ·rw [if_neg c3]at H
   have c3b0:(a0_5==0 && (a0_6==0 && (!a0_7 && (!a0_8))))=false:=by simpa using c3
   (try(have c3b1:decide (a0_5=0 && (a0_6==0 && (!a0_7 && (!a0_8))))=false:=by simpa using c3))
   (try(have c3b2:(a0_5==0 && (a0_6==0 && (!a0_7 && (!a0_8))))=false:=by simpa using c3))
   (try(have c3b3:¬ (a0_5=0 && (a0_6==0 && (!a0_7 && (!a0_8)))):=by simpa using c3))
   clear c3
   obtain rfl:=Option.some.inj H
   go_enter Tryz.func112,Tryz.ntmps112
   go_wp2_with (first|((with_reducible refine z15q (N:=1) rfl ?_);refine z13q ?hg (N:=1) ?hd (cs:=#[.int .i64 a0_0,.string a0_1,.bool a0_2,.int .i64 a0_3,.int .i64 a0_4,.int .i64 a0_5,.int .i64 a0_6,.bool a0_7,.bool a0_8,.int .i64 a0_9,.int .i64 a0_10,.bool a0_11,.bool a0_12,.int .i64 a0_13]) (t:=67) ?hr ?_;(case hd=>rfl);(case hg=>rfl);(case hr=>first|(go_simp;done)|(go_simp;rfl));intro gb188 hg w6 hbox hb;have n0_:=Aside0.mk (z5q (ibh HB.out) hb);have n1_:=Aside0.mk (hbox);have n2_:=Aside0.mk ((by rw [hg];exact(z6q (ibh HB.out)):w.heap.size≤gb188));have n3_:=Aside0.mk ((by rw [hg];exact(z6q (ibh HB.out)):w.heap.size≤gb188));clear HB;have HB:=n0_;have BK188:=n1_;have GW188:=n2_;have GE188:=n3_;clear n0_ n1_ n2_ n3_;clear hb hbox hg;obtain⟨hcz7_0,hcz7_1,hcz7_2,hcz7_3,hcz7_4,hcz7_5,hcz7_6,hcz7_7,hcz7_8,hcz7_9,hcz7_10,hcz7_11,hcz7_12,hcz7_13,hfz7_0,hfz7_1,hfz7_2,hfz7_3,hfz7_4,hfz7_5,hfz7_6,hfz7_7,hfz7_8,hfz7_9,hfz7_10,hfz7_11,hfz7_12,hfz7_13⟩:=cr14 (w:=w6) (g:=gb188) BK188.out))
   go_ret
   exact⟨by first|rfl|(simp [errW_none,errW_some]<;>rfl)|(simp [*,errW_none,errW_some]<;>rfl),by repeat(first|(with_reducible first|exact HB.out|apply z2q|apply z3q|apply z4q|refine z7q ?_ GE188.out)|exact HB.out)⟩
 ·rw [if_neg c2]at H
  have c2b0:(!a0_2 && (a0_3==0 && (a0_4==0)))=false:=by simpa using c2
  clear c2
  obtain rfl:=Option.some.inj H
  go_enter Tryz.func112,Tryz.ntmps112
  go_wp2_with (first|((with_reducible refine z15q (N:=1) rfl ?_);refine z13q ?hg (N:=1) ?hd (cs:=#[.int .i64 a0_0,.string a0_1,.bool a0_2,.int .i64 a0_3,.int .i64 a0_4,.int .i64 a0_5,.int .i64 a0_6,.bool a0_7,.bool a0_8,.int .i64 a0_9,.int .i64 a0_10,.bool a0_11,.bool a0_12,.int .i64 a0_13]) (t:=67) ?hr ?_;(case hd=>rfl);(case hg=>rfl);(case hr=>first|(go_simp;done)|(go_simp;rfl));intro gb188 hg w8 hbox hb;have n0_:=Aside0.mk (z5q (ibh HB.out) hb);have n1_:=Aside0.mk (hbox);have n2_:=Aside0.mk ((by rw [hg];exact(z6q (ibh HB.out)):w.heap.size≤gb188));have n3_:=Aside0.mk ((by rw [hg];exact(z6q (ibh HB.out)):w.heap.size≤gb188));clear HB;have HB:=n0_;have BK188:=n1_;have GW188:=n2_;have GE188:=n3_;clear n0_ n1_ n2_ n3_;clear hb hbox hg;obtain⟨hcz9_0,hcz9_1,hcz9_2,hcz9_3,hcz9_4,hcz9_5,hcz9_6,hcz9_7,hcz9_8,hcz9_9,hcz9_10,hcz9_11,hcz9_12,hcz9_13,hfz9_0,hfz9_1,hfz9_2,hfz9_3,hfz9_4,hfz9_5,hfz9_6,hfz9_7,hfz9_8,hfz9_9,hfz9_10,hfz9_11,hfz9_12,hfz9_13⟩:=cr14 (w:=w8) (g:=gb188) BK188.out))
  go_ret
  exact⟨by first|rfl|(simp [errW_none,errW_some]<;>rfl)|(simp [*,errW_none,errW_some]<;>rfl),by repeat(first|(with_reducible first|exact HB.out|apply z2q|apply z3q|apply z4q|refine z7q ?_ GE188.out)|exact HB.out)⟩



/-! ### spec_l4Printed: function 113 -/

def spec_l4Printed.l0:Nat→ByteArray→Int→Int→Option (Bool)
 |0,_,_,_=>none
 |k+1,x0,x1,x5=>if x5<(x0.size:Int)then(if 0≤x5 then(if(bt x0 x5)<32 then(some false)else(if(bt x0 x5) > 126 then(some false)else(spec_l4Printed.l0 k x0 x1 (wrap64 (x5+1)))))else(none))else(some (decide ((x0.size:Int)≤x1)))

def spec_l4Printed.f (k:Nat) (a0:ByteArray) (a1:Int):Option (Bool):=spec_l4Printed.l0 k a0 a1 0

set_option maxHeartbeats 8000000 in
set_option maxRecDepth 100000 in
theorem spec_l4Printed.calls (k:Nat) (a0:ByteArray) (a1:Int) (r:Bool) (w:World) (h:spec_l4Printed.f k a0 a1=some r):
  Calls Tryz.prog 113 #[.string a0,.int .i64 a1] w fun e w'=>e= .returned (.bool r)∧Drawn0 w w':=by
 have H:(spec_l4Printed.l0 k a0 a1 0)=some r:=h
 clear h
 have H':=Aside0.mk H
 clear H
 go_enter Tryz.func113,Tryz.ntmps113
 go_wp2
 go_loopg [5] k (fun kq v5 w'=>∃ (x5_1:Int),v5= .int .i64 x5_1∧Aside0 (spec_l4Printed.l0 kq a0 a1 x5_1=some r)∧Aside0 (kq≤k)∧Drawn0 w w')
 case atStart=>exact⟨(0),(by first|rfl|(simp;done)|(simp [*];done)|(simp;unfold wrap64;omega)),H',⟨Nat.le_refl _⟩,by repeat(first|exact Drawn0.refl _|apply Drawn0.step)⟩
 case round=>
  clear H'
  try clear c1
  try clear p2
  obtain⟨x5_1,rfl,HA,HK1,⟨m1,rfl⟩⟩:=hrel
  cases gk with
  |zero=>exact absurd HA.out (by simp [spec_l4Printed.l0])
  |succ k1=>
   have H:=HA.out
   clear HA
   simp only [spec_l4Printed.l0]at H
   by_cases c3:x5_1<(a0.size:Int)
   ·rw [if_pos c3]at H
    have c3b0:decide (x5_1<(a0.size:Int))=true:=decide_eq_true c3
    clear c3
    by_cases c4:0≤x5_1
    ·rw [if_pos c4]at H
     have c4b0:decide (0≤x5_1)=true:=decide_eq_true c4
     clear c4
     by_cases c6:(bt a0 x5_1)<32
     ·rw [if_pos c6]at H
      have c6b0:decide ((bt a0 x5_1)<32)=true:=decide_eq_true c6
      clear c6
      obtain rfl:=Option.some.inj H
      have p5:0≤(x5_1:Int):=of_decide_eq_true (by first|(with_reducible assumption)|assumption)
      have q5:x5_1<(a0.size:Int):=of_decide_eq_true (by first|(with_reducible assumption)|assumption)
      have hx5:=bt_at a0 x5_1
      replace p5:=eq_true p5
      replace q5:=eq_true q5
      go_wp2
      go_ret
      exact⟨by first|rfl|(simp;done)|(simp [*];done),by repeat(first|exact Drawn0.refl _|apply Drawn0.step)⟩
     ·rw [if_neg c6]at H
      have c6b0:decide ((bt a0 x5_1)<32)=false:=decide_eq_false c6
      clear c6
      by_cases c8:(bt a0 x5_1) > 126
      ·rw [if_pos c8]at H
       have c8b0:decide (126<(bt a0 x5_1))=true:=decide_eq_true c8
       clear c8
       obtain rfl:=Option.some.inj H
       have p5:0≤(x5_1:Int):=of_decide_eq_true (by first|(with_reducible assumption)|assumption)
       have q5:x5_1<(a0.size:Int):=of_decide_eq_true (by first|(with_reducible assumption)|assumption)
       have hx5:=bt_at a0 x5_1
       replace p5:=eq_true p5
       replace q5:=eq_true q5
       have p7:0≤(x5_1:Int):=of_decide_eq_true (by first|(with_reducible assumption)|assumption)
       have q7:x5_1<(a0.size:Int):=of_decide_eq_true (by first|(with_reducible assumption)|assumption)
       have hx7:=bt_at a0 x5_1
       replace p7:=eq_true p7
       replace q7:=eq_true q7
       go_wp2
       go_ret
       exact⟨by first|rfl|(simp;done)|(simp [*];done),by repeat(first|exact Drawn0.refl _|apply Drawn0.step)⟩
      ·rw [if_neg c8]at H
       have c8b0:decide (126<(bt a0 x5_1))=false:=decide_eq_false c8
       clear c8
       have H':=Aside0.mk H
       clear H
       have p5:0≤(x5_1:Int):=of_decide_eq_true (by first|(with_reducible assumption)|assumption)
       have q5:x5_1<(a0.size:Int):=of_decide_eq_true (by first|(with_reducible assumption)|assumption)
       have hx5:=bt_at a0 x5_1
       replace p5:=eq_true p5
       replace q5:=eq_true q5
       have p7:0≤(x5_1:Int):=of_decide_eq_true (by first|(with_reducible assumption)|assumption)
       have q7:x5_1<(a0.size:Int):=of_decide_eq_true (by first|(with_reducible assumption)|assumption)
       have hx7:=bt_at a0 x5_1
       replace p7:=eq_true p7
       replace q7:=eq_true q7
       go_wp2
       go_roundg k1
       case measure=>have:=HK1.out;omega
       case rel=>exact⟨(wrap64 (x5_1+1)),(by first|rfl|(simp;done)|(simp [*];done)|(simp;unfold wrap64;omega)),H',⟨by have:=HK1.out;omega⟩,by repeat(first|exact Drawn0.refl _|apply Drawn0.step)⟩
    ·rw [if_neg c4]at H
     exact absurd H (by simp)
   ·rw [if_neg c3]at H
    have c3b0:decide (x5_1<(a0.size:Int))=false:=decide_eq_false c3
    clear c3
    obtain rfl:=Option.some.inj H
    go_wp2
    go_ret
    exact⟨by first|rfl|(simp;done)|(simp [*];done),by repeat(first|exact Drawn0.refl _|apply Drawn0.step)⟩



/-! ### spec_l4Errors: function 114 -/

def spec_l4Errors.f  :Option (List ByteArray):=some (([(⟨#[35,78,85,76,76,33]⟩:ByteArray),(⟨#[35,68,73,86,47,48,33]⟩:ByteArray),(⟨#[35,86,65,76,85,69,33]⟩:ByteArray),(⟨#[35,82,69,70,33]⟩:ByteArray),(⟨#[35,78,65,77,69,63]⟩:ByteArray),(⟨#[35,78,85,77,33]⟩:ByteArray),(⟨#[35,78,47,65]⟩:ByteArray),(⟨#[35,83,80,73,76,76,33]⟩:ByteArray),(⟨#[35,67,89,67,76,69,33]⟩:ByteArray)]:List ByteArray))

set_option maxHeartbeats 8000000 in
set_option maxRecDepth 100000 in
theorem spec_l4Errors.calls  (r:List ByteArray) (w:World) (h:spec_l4Errors.f  =some r):
  Calls Tryz.prog 114 #[] w fun e w'=>∃ v0_:Value,e= .returned (v0_)∧Kd.R Kd.string 9 w' w.heap.size (fun _=>True) v0_ r∧Below w.heap.size w w':=by
 have HB:=Aside0.mk (Below.refl w.heap.size w)
 have H:(some (([(⟨#[35,78,85,76,76,33]⟩:ByteArray),(⟨#[35,68,73,86,47,48,33]⟩:ByteArray),(⟨#[35,86,65,76,85,69,33]⟩:ByteArray),(⟨#[35,82,69,70,33]⟩:ByteArray),(⟨#[35,78,65,77,69,63]⟩:ByteArray),(⟨#[35,78,85,77,33]⟩:ByteArray),(⟨#[35,78,47,65]⟩:ByteArray),(⟨#[35,83,80,73,76,76,33]⟩:ByteArray),(⟨#[35,67,89,67,76,69,33]⟩:ByteArray)]:List ByteArray)))=some r:=h
 clear h
 obtain⟨y189,hy189⟩:∃ y_:List ByteArray,y_=(([(⟨#[35,78,85,76,76,33]⟩:ByteArray),(⟨#[35,68,73,86,47,48,33]⟩:ByteArray),(⟨#[35,86,65,76,85,69,33]⟩:ByteArray),(⟨#[35,82,69,70,33]⟩:ByteArray),(⟨#[35,78,65,77,69,63]⟩:ByteArray),(⟨#[35,78,85,77,33]⟩:ByteArray),(⟨#[35,78,47,65]⟩:ByteArray),(⟨#[35,83,80,73,76,76,33]⟩:ByteArray),(⟨#[35,67,89,67,76,69,33]⟩:ByteArray)]:List ByteArray)):=⟨_,rfl⟩
 replace H:(some y189)=some r:=by first|(rw [hy189];with_reducible exact H)|(have H2_:=(Option.bind_some _ _).symm.trans H;rw [hy189];with_reducible exact H2_)|(have H2_:=(Option.bind_some _ _).symm.trans H;with_reducible exact H2_)|with_reducible exact H|(rw [hy189];exact H)|exact H
 have Ny189:=Aside0.mk hy189
 clear hy189
 obtain rfl:=Option.some.inj H
 go_enter Tryz.func114,Tryz.ntmps114
 go_wp2_with (first|((with_reducible refine z15q (N:=1) rfl ?_);refine Kd.R_lit Kd.string _ 9 ?hg (N:=1) ?hd (xs:=([(⟨#[35,78,85,76,76,33]⟩:ByteArray),(⟨#[35,68,73,86,47,48,33]⟩:ByteArray),(⟨#[35,86,65,76,85,69,33]⟩:ByteArray),(⟨#[35,82,69,70,33]⟩:ByteArray),(⟨#[35,78,65,77,69,63]⟩:ByteArray),(⟨#[35,78,85,77,33]⟩:ByteArray),(⟨#[35,78,47,65]⟩:ByteArray),(⟨#[35,83,80,73,76,76,33]⟩:ByteArray),(⟨#[35,67,89,67,76,69,33]⟩:ByteArray)]:List ByteArray)) (inner:= [.string (⟨#[35,78,85,76,76,33]⟩:ByteArray),.string (⟨#[35,68,73,86,47,48,33]⟩:ByteArray),.string (⟨#[35,86,65,76,85,69,33]⟩:ByteArray),.string (⟨#[35,82,69,70,33]⟩:ByteArray),.string (⟨#[35,78,65,77,69,63]⟩:ByteArray),.string (⟨#[35,78,85,77,33]⟩:ByteArray),.string (⟨#[35,78,47,65]⟩:ByteArray),.string (⟨#[35,83,80,73,76,76,33]⟩:ByteArray),.string (⟨#[35,67,89,67,76,69,33]⟩:ByteArray)]) (ok:=fun _=>True) (okp:=fun _=>True) ?hr ?hp (fun _ hk=>hk) trivial (Below.refl _ _) (Nat.le_refl _) (by simp) ?_;(case hd=>rfl);(case hg=>rfl);(case hr=>first|(go_simp;done)|(go_simp;rfl));(case hp=>exact(Reps.one (show Kd.M Kd.string _ _ _ (⟨#[35,78,85,76,76,33]⟩:ByteArray) [.string (⟨#[35,78,85,76,76,33]⟩:ByteArray)]from rfl) (Reps.one (show Kd.M Kd.string _ _ _ (⟨#[35,68,73,86,47,48,33]⟩:ByteArray) [.string (⟨#[35,68,73,86,47,48,33]⟩:ByteArray)]from rfl) (Reps.one (show Kd.M Kd.string _ _ _ (⟨#[35,86,65,76,85,69,33]⟩:ByteArray) [.string (⟨#[35,86,65,76,85,69,33]⟩:ByteArray)]from rfl) (Reps.one (show Kd.M Kd.string _ _ _ (⟨#[35,82,69,70,33]⟩:ByteArray) [.string (⟨#[35,82,69,70,33]⟩:ByteArray)]from rfl) (Reps.one (show Kd.M Kd.string _ _ _ (⟨#[35,78,65,77,69,63]⟩:ByteArray) [.string (⟨#[35,78,65,77,69,63]⟩:ByteArray)]from rfl) (Reps.one (show Kd.M Kd.string _ _ _ (⟨#[35,78,85,77,33]⟩:ByteArray) [.string (⟨#[35,78,85,77,33]⟩:ByteArray)]from rfl) (Reps.one (show Kd.M Kd.string _ _ _ (⟨#[35,78,47,65]⟩:ByteArray) [.string (⟨#[35,78,47,65]⟩:ByteArray)]from rfl) (Reps.one (show Kd.M Kd.string _ _ _ (⟨#[35,83,80,73,76,76,33]⟩:ByteArray) [.string (⟨#[35,83,80,73,76,76,33]⟩:ByteArray)]from rfl) (Reps.one (show Kd.M Kd.string _ _ _ (⟨#[35,67,89,67,76,69,33]⟩:ByteArray) [.string (⟨#[35,67,89,67,76,69,33]⟩:ByteArray)]from rfl) (Reps.none _ _)))))))))));intro v190 w1 ho2 hb hg_ hnew_;clear hg_ hnew_;(first|rw [←Ny189.out]at ho2|(simp only [Int.reduceToNat]at ho2;rw [←Ny189.out]at ho2));have n0_:=Aside0.mk (Kd.R_lower ho2 (z6q (ibh HB.out)));have n1_:=Aside0.mk (z5q (ibh HB.out) hb);clear HB;have HO191:=n0_;have HB:=n1_;clear n0_ n1_;clear hb ho2))
 go_ret
 exact⟨_,by first|rfl|(simp [errW_none,errW_some]<;>rfl)|(simp [*,errW_none,errW_some]<;>rfl),by(with_reducible repeat(first|apply Kd.R_alloc|apply Kd.R_drewN|apply Kd.R_drew));exact HO191.out,by repeat(first|(with_reducible first|exact HB.out|apply z2q|apply z3q|apply z4q)|exact HB.out)⟩



/-! ### spec_l4Letter: function 130 -/

def spec_l4Letter.f (a0:Int):Option (Bool):=if a0≥97 then(if a0≤122 then(some true)else(if a0≥65 then(some (decide (a0≤90)))else(some false)))else(if a0≥65 then(some (decide (a0≤90)))else(some false))

set_option maxHeartbeats 8000000 in
set_option maxRecDepth 100000 in
theorem spec_l4Letter.calls (a0:Int) (r:Bool) (w:World) (h:spec_l4Letter.f a0=some r):
  Calls Tryz.prog 130 #[.int .u8 a0] w fun e w'=>e= .returned (.bool r)∧Drawn0 w w':=by
 have H:(if a0≥97 then(if a0≤122 then(some true)else(if a0≥65 then(some (decide (a0≤90)))else(some false)))else(if a0≥65 then(some (decide (a0≤90)))else(some false)))=some r:=h
 clear h
 by_cases c2:a0≥97
 ·rw [if_pos c2]at H
  have c2b0:decide (97≤a0)=true:=decide_eq_true c2
  clear c2
  by_cases c3:a0≤122
  ·rw [if_pos c3]at H
   have c3b0:decide (a0≤122)=true:=decide_eq_true c3
   clear c3
   obtain rfl:=Option.some.inj H
   go_enter Tryz.func130,Tryz.ntmps130
   go_wp2
   go_ret
   exact⟨by first|rfl|(simp;done)|(simp [*];done),by repeat(first|exact Drawn0.refl _|apply Drawn0.step)⟩
  ·rw [if_neg c3]at H
   have c3b0:decide (a0≤122)=false:=decide_eq_false c3
   clear c3
   by_cases c4:a0≥65
   ·rw [if_pos c4]at H
    have c4b0:decide (65≤a0)=true:=decide_eq_true c4
    clear c4
    obtain rfl:=Option.some.inj H
    go_enter Tryz.func130,Tryz.ntmps130
    go_wp2
    go_ret
    exact⟨by first|rfl|(simp;done)|(simp [*];done),by repeat(first|exact Drawn0.refl _|apply Drawn0.step)⟩
   ·rw [if_neg c4]at H
    have c4b0:decide (65≤a0)=false:=decide_eq_false c4
    clear c4
    obtain rfl:=Option.some.inj H
    go_enter Tryz.func130,Tryz.ntmps130
    go_wp2
    go_ret
    exact⟨by first|rfl|(simp;done)|(simp [*];done),by repeat(first|exact Drawn0.refl _|apply Drawn0.step)⟩
 ·rw [if_neg c2]at H
  have c2b0:decide (97≤a0)=false:=decide_eq_false c2
  clear c2
  by_cases c5:a0≥65
  ·rw [if_pos c5]at H
   have c5b0:decide (65≤a0)=true:=decide_eq_true c5
   clear c5
   obtain rfl:=Option.some.inj H
   go_enter Tryz.func130,Tryz.ntmps130
   go_wp2
   go_ret
   exact⟨by first|rfl|(simp;done)|(simp [*];done),by repeat(first|exact Drawn0.refl _|apply Drawn0.step)⟩
  ·rw [if_neg c5]at H
   have c5b0:decide (65≤a0)=false:=decide_eq_false c5
   clear c5
   obtain rfl:=Option.some.inj H
   go_enter Tryz.func130,Tryz.ntmps130
   go_wp2
   go_ret
   exact⟨by first|rfl|(simp;done)|(simp [*];done),by repeat(first|exact Drawn0.refl _|apply Drawn0.step)⟩



/-! ### spec_l1Digit: function 134 -/

def spec_l1Digit.f (a0:Int):Option (Bool):=if a0≥48 then(some (decide (a0≤57)))else(some false)

set_option maxHeartbeats 8000000 in
set_option maxRecDepth 100000 in
theorem spec_l1Digit.calls (a0:Int) (r:Bool) (w:World) (h:spec_l1Digit.f a0=some r):
  Calls Tryz.prog 134 #[.int .u8 a0] w fun e w'=>e= .returned (.bool r)∧Drawn0 w w':=by
 have H:(if a0≥48 then(some (decide (a0≤57)))else(some false))=some r:=h
 clear h
 by_cases c2:a0≥48
 ·rw [if_pos c2]at H
  have c2b0:decide (48≤a0)=true:=decide_eq_true c2
  clear c2
  obtain rfl:=Option.some.inj H
  go_enter Tryz.func134,Tryz.ntmps134
  go_wp2
  go_ret
  exact⟨by first|rfl|(simp;done)|(simp [*];done),by repeat(first|exact Drawn0.refl _|apply Drawn0.step)⟩
 ·rw [if_neg c2]at H
  have c2b0:decide (48≤a0)=false:=decide_eq_false c2
  clear c2
  obtain rfl:=Option.some.inj H
  go_enter Tryz.func134,Tryz.ntmps134
  go_wp2
  go_ret
  exact⟨by first|rfl|(simp;done)|(simp [*];done),by repeat(first|exact Drawn0.refl _|apply Drawn0.step)⟩



/-! ### spec_l4NameByte: function 131 -/

def spec_l4NameByte.f (a0:Int):Option (Bool):=(spec_l4Letter.f a0).bind fun t192=>(if t192=true then(some true)else((spec_l1Digit.f a0).bind fun t193=>(if t193=true then(some true)else(if a0=95 then(some true)else(some (a0==46))))))

set_option maxHeartbeats 8000000 in
set_option maxRecDepth 100000 in
theorem spec_l4NameByte.calls (a0:Int) (r:Bool) (w:World) (h:spec_l4NameByte.f a0=some r):
  Calls Tryz.prog 131 #[.int .u8 a0] w fun e w'=>e= .returned (.bool r)∧Drawn0 w w':=by
 have H:((spec_l4Letter.f a0).bind fun t192=>(if t192=true then(some true)else((spec_l1Digit.f a0).bind fun t193=>(if t193=true then(some true)else(if a0=95 then(some true)else(some (a0==46)))))))=some r:=h
 clear h
 replace H:=Option.bind_eq_some_iff.mp H
 obtain⟨t192,A20,H⟩:=H
 replace H:(if t192=true then(some true)else((spec_l1Digit.f a0).bind fun t193=>(if t193=true then(some true)else(if a0=95 then(some true)else(some (a0==46))))))=some r:=H
 have A2:=Aside0.mk A20
 clear A20
 by_cases c3:t192=true
 ·subst c3
  have H1:(some true)=some r:=by rw [if_pos rfl]at H;exact H
  clear H
  have H:=H1
  clear H1
  obtain rfl:=Option.some.inj H
  go_enter Tryz.func131,Tryz.ntmps131
  go_wp2_with (first|((with_reducible refine z8q (f:=130) rfl ?_);refine z17q (some 4) rfl rfl Tryz.func130 (by kernel_rfl) rfl #[.int .u8 a0] rfl (by(try simp only [map_toArray,map_cons,map_nil]);first|done|rfl|(simp only [length_drop,length_take];rfl)) ?_;(with_reducible refine(spec_l4Letter.calls a0 true _ A2.out).mono ?_);rintro e w' ⟨rfl,⟨nd,rfl⟩⟩;refine⟨_,rfl,?_⟩))
  go_ret
  exact⟨by first|rfl|(simp;done)|(simp [*];done),by repeat(first|exact Drawn0.refl _|apply Drawn0.step)⟩
 ·replace c3:=Bool.eq_false_iff.mpr c3
  subst c3
  have H1:((spec_l1Digit.f a0).bind fun t193=>(if t193=true then(some true)else(if a0=95 then(some true)else(some (a0==46)))))=some r:=by rw [if_neg (show ¬ (false=true)by decide)]at H;exact H
  clear H
  have H:=H1
  clear H1
  replace H:=Option.bind_eq_some_iff.mp H
  obtain⟨t193,A40,H⟩:=H
  replace H:(if t193=true then(some true)else(if a0=95 then(some true)else(some (a0==46))))=some r:=H
  have A4:=Aside0.mk A40
  clear A40
  by_cases c5:t193=true
  ·subst c5
   have H1:(some true)=some r:=by rw [if_pos rfl]at H;exact H
   clear H
   have H:=H1
   clear H1
   obtain rfl:=Option.some.inj H
   go_enter Tryz.func131,Tryz.ntmps131
   go_wp2_with (first|((with_reducible refine z8q (f:=130) rfl ?_);refine z17q (some 4) rfl rfl Tryz.func130 (by kernel_rfl) rfl #[.int .u8 a0] rfl (by(try simp only [map_toArray,map_cons,map_nil]);first|done|rfl|(simp only [length_drop,length_take];rfl)) ?_;(with_reducible refine(spec_l4Letter.calls a0 false _ A2.out).mono ?_);rintro e w' ⟨rfl,⟨nd,rfl⟩⟩;refine⟨_,rfl,?_⟩)|(go_at_call 134;(with_reducible refine(spec_l1Digit.calls a0 true _ A4.out).mono ?_);rintro e w' ⟨rfl,⟨nd,rfl⟩⟩))
   go_ret
   exact⟨by first|rfl|(simp;done)|(simp [*];done),by repeat(first|exact Drawn0.refl _|apply Drawn0.step)⟩
  ·replace c5:=Bool.eq_false_iff.mpr c5
   subst c5
   have H1:(if a0=95 then(some true)else(some (a0==46)))=some r:=by rw [if_neg (show ¬ (false=true)by decide)]at H;exact H
   clear H
   have H:=H1
   clear H1
   by_cases c6:a0=95
   ·rw [if_pos c6]at H
    have c6b0:(a0==95)=true:=beq_iff_eq.mpr c6
    have c6b1:(a0 !=95)=false:=bne_eq_false_iff_eq.mpr c6
    clear c6
    obtain rfl:=Option.some.inj H
    go_enter Tryz.func131,Tryz.ntmps131
    go_wp2_with (first|((with_reducible refine z8q (f:=130) rfl ?_);refine z17q (some 4) rfl rfl Tryz.func130 (by kernel_rfl) rfl #[.int .u8 a0] rfl (by(try simp only [map_toArray,map_cons,map_nil]);first|done|rfl|(simp only [length_drop,length_take];rfl)) ?_;(with_reducible refine(spec_l4Letter.calls a0 false _ A2.out).mono ?_);rintro e w' ⟨rfl,⟨nd,rfl⟩⟩;refine⟨_,rfl,?_⟩)|(go_at_call 134;(with_reducible refine(spec_l1Digit.calls a0 false _ A4.out).mono ?_);rintro e w' ⟨rfl,⟨nd,rfl⟩⟩))
    go_ret
    exact⟨by first|rfl|(simp;done)|(simp [*];done),by repeat(first|exact Drawn0.refl _|apply Drawn0.step)⟩
   ·rw [if_neg c6]at H
    have c6b0:(a0==95)=false:=beq_eq_false_iff_ne.mpr c6
    have c6b1:(a0 !=95)=true:=bne_iff_ne.mpr c6
    obtain rfl:=Option.some.inj H
    go_enter Tryz.func131,Tryz.ntmps131
    go_wp2_with (first|((with_reducible refine z8q (f:=130) rfl ?_);refine z17q (some 4) rfl rfl Tryz.func130 (by kernel_rfl) rfl #[.int .u8 a0] rfl (by(try simp only [map_toArray,map_cons,map_nil]);first|done|rfl|(simp only [length_drop,length_take];rfl)) ?_;(with_reducible refine(spec_l4Letter.calls a0 false _ A2.out).mono ?_);rintro e w' ⟨rfl,⟨nd,rfl⟩⟩;refine⟨_,rfl,?_⟩)|(go_at_call 134;(with_reducible refine(spec_l1Digit.calls a0 false _ A4.out).mono ?_);rintro e w' ⟨rfl,⟨nd,rfl⟩⟩))
    go_ret
    exact⟨by first|rfl|(simp;done)|(simp [*];done),by repeat(first|exact Drawn0.refl _|apply Drawn0.step)⟩



/-! ### spec_l4Second: function 132 -/

mutual
def spec_l4Second.j0:Nat→ByteArray→Int→Int→Bool→Option (Bool)
 |0,_,_,_,_=>none
 |k+1,x0,x3,x4,x14=>if x14=true then(spec_l4Second.l0 k x0 (wrap64 (x3+1)) (wrap64 (x4+1)))else(spec_l4Second.j2 k x0 x3 x4)
def spec_l4Second.j2:Nat→ByteArray→Int→Int→Option (Bool)
 |0,_,_,_=>none
 |k+1,x0,x3,x4=>if x3<(x0.size:Int)then(if 0≤x3 then(spec_l4Second.j3 k x0 x3 x4 ((bt x0 x3)==67))else(none))else(spec_l4Second.j3 k x0 x3 x4 false)
def spec_l4Second.j3:Nat→ByteArray→Int→Int→Bool→Option (Bool)
 |0,_,_,_,_=>none
 |k+1,x0,x3,x4,x40=>if x40=true then(spec_l4Second.l1 k x0 (wrap64 (x3+1)) (wrap64 (x4+1)))else(if x4 > 0 then(some (x3==(x0.size:Int)))else(some false))
def spec_l4Second.l1:Nat→ByteArray→Int→Int→Option (Bool)
 |0,_,_,_=>none
 |k+1,x0,x3,x4=>if x3<(x0.size:Int)then(if 0≤x3 then((spec_l1Digit.f (bt x0 x3)).bind fun t195=>(if t195=true then(spec_l4Second.l1 k x0 (wrap64 (x3+1)) x4)else(if x4 > 0 then(some (x3==(x0.size:Int)))else(some false))))else(none))else(if x4 > 0 then(some (x3==(x0.size:Int)))else(some false))
def spec_l4Second.l0:Nat→ByteArray→Int→Int→Option (Bool)
 |0,_,_,_=>none
 |k+1,x0,x3,x4=>if x3<(x0.size:Int)then(if 0≤x3 then((spec_l1Digit.f (bt x0 x3)).bind fun t194=>(if t194=true then(spec_l4Second.l0 k x0 (wrap64 (x3+1)) x4)else(spec_l4Second.j2 k x0 x3 x4)))else(none))else(spec_l4Second.j2 k x0 x3 x4)
end

def spec_l4Second.f (k:Nat) (a0:ByteArray):Option (Bool):=if 0<(a0.size:Int)then(spec_l4Second.j0 k a0 0 0 ((bt a0 0)==82))else(spec_l4Second.j0 k a0 0 0 false)

set_option maxHeartbeats 8000000 in
set_option maxRecDepth 100000 in
theorem spec_l4Second.calls (k:Nat) (a0:ByteArray) (r:Bool) (w:World) (h:spec_l4Second.f k a0=some r):
  Calls Tryz.prog 132 #[.string a0] w fun e w'=>e= .returned (.bool r)∧Drawn0 w w':=by
 have H:(if 0<(a0.size:Int)then(spec_l4Second.j0 k a0 0 0 ((bt a0 0)==82))else(spec_l4Second.j0 k a0 0 0 false))=some r:=h
 clear h
 have HC2:=Aside0.mk H
 clear H
 go_enter Tryz.func132,Tryz.ntmps132
 go_upto_region 3 with (fail)
 go_cut [14] (fun v14 wc=>∃ (kq:Nat) (x14_1:Bool),v14= .bool x14_1∧Aside0 (spec_l4Second.j0 kq a0 0 0 x14_1=some r)∧Aside0 (kq≤k)∧Drawn0 w wc)
 case first=>
  have H:=HC2.out
  clear HC2
  by_cases c3:0<(a0.size:Int)
  ·rw [if_pos c3]at H
   have c3b0:decide (0<(a0.size:Int))=true:=decide_eq_true c3
   have c3b1:decide (0<a0.size)=true:=decide_eq_true (by omega)
   clear c3
   (first|rw [c3b0]|(simp only [i64_w,i32_w];rw [c3b0])|skip)
   have H':=Aside0.mk H
   clear H
   have p4:0≤(0:Int):=(by omega)
   have q4:0<a0.size:=(by have:(0:Int)<(a0.size:Int):=of_decide_eq_true (by first|(with_reducible assumption)|assumption);omega)
   have hx4:∀ h:0<a0.size,((a0[0]'h).toNat:Int)=bt a0 0:=bt_at a0 0
   clear p4
   have qi4:(0<(a0.size:Int))=True:=eq_true (of_decide_eq_true (by first|(with_reducible assumption)|assumption))
   replace q4:=eq_true q4
   go_wp2
   go_meet
   case rel=>exact⟨_,(((bt a0 0)==82)),(by first|rfl|(simp;done)|(simp [*];done)|(simp;unfold wrap64;omega)),H',⟨by first|omega|exact Nat.le_refl _⟩,by repeat(first|exact Drawn0.refl _|apply Drawn0.step)⟩
  ·rw [if_neg c3]at H
   have c3b0:decide (0<(a0.size:Int))=false:=decide_eq_false c3
   have c3b1:decide (0<a0.size)=false:=decide_eq_false (by omega)
   clear c3
   (first|rw [c3b0]|(simp only [i64_w,i32_w];rw [c3b0])|skip)
   have H':=Aside0.mk H
   clear H
   go_wp2
   go_meet
   case rel=>exact⟨_,(false),(by first|rfl|(simp;done)|(simp [*];done)|(simp;unfold wrap64;omega)),H',⟨by first|omega|exact Nat.le_refl _⟩,by repeat(first|exact Drawn0.refl _|apply Drawn0.step)⟩
 case rest=>
  clear HC2
  try clear c1
  try clear p2
  try clear c3
  try clear c3b0
  try clear c3b1
  try clear p4
  try clear q4
  try clear hx4
  try clear qi4
  try clear p4
  try clear q4
  obtain⟨kq,x14_1,rfl,HA,HJ1,⟨mc1,rfl⟩⟩:=hcut
  cases kq with
  |zero=>exact absurd HA.out (by simp [spec_l4Second.j0])
  |succ kj1=>
   have H:=HA.out
   clear HA
   simp only [spec_l4Second.j0]at H
   have HC5:=Aside0.mk H
   clear H
   go_upto_if 14 with (fail)
   go_cut [3,4] (fun v3 v4 wc=>∃ (kq:Nat) (x3_4:Int) (x4_4:Int),v3= .int .i64 x3_4∧v4= .int .i64 x4_4∧Aside0 (spec_l4Second.j2 kq a0 x3_4 x4_4=some r)∧Aside0 (kq≤kj1)∧Drawn0 w wc)
   case first=>
    have H:=HC5.out
    clear HC5
    by_cases c6:x14_1=true
    ·subst c6
     have H1:(spec_l4Second.l0 kj1 a0 (wrap64 (0+1)) (wrap64 (0+1)))=some r:=by rw [if_pos rfl]at H;exact H
     clear H
     have H:=H1
     clear H1
     have H':=Aside0.mk H
     clear H
     go_wp2
     go_loopg [3] kj1 (fun kq v3 w'=>∃ (x3_2:Int),v3= .int .i64 x3_2∧Aside0 (spec_l4Second.l0 kq a0 x3_2 (wrap64 (0+1))=some r)∧Aside0 (kq≤kj1)∧Drawn0 w w')
     case atStart=>exact⟨(wrap64 (0+1)),(by first|rfl|(simp;done)|(simp [*];done)|(simp;unfold wrap64;omega)),H',⟨Nat.le_refl _⟩,by repeat(first|exact Drawn0.refl _|apply Drawn0.step)⟩
     case round=>
      clear H'
      try clear c1
      try clear p2
      try clear c3
      try clear c3b0
      try clear c3b1
      try clear p4
      try clear q4
      try clear hx4
      try clear qi4
      try clear c6
      try clear p6
      try clear p2
      try clear p4
      try clear q4
      obtain⟨x3_2,rfl,HA,HK2,⟨m2,rfl⟩⟩:=hrel
      cases gk with
      |zero=>exact absurd HA.out (by simp [spec_l4Second.l0])
      |succ k2=>
       have H:=HA.out
       clear HA
       simp only [spec_l4Second.l0]at H
       by_cases c7:x3_2<(a0.size:Int)
       ·rw [if_pos c7]at H
        have c7b0:decide (x3_2<(a0.size:Int))=true:=decide_eq_true c7
        clear c7
        (first|rw [c7b0]|(simp only [i64_w,i32_w];rw [c7b0])|skip)
        by_cases c8:0≤x3_2
        ·rw [if_pos c8]at H
         have c8b0:decide (0≤x3_2)=true:=decide_eq_true c8
         clear c8
         replace H:=Option.bind_eq_some_iff.mp H
         obtain⟨t194,A100,H⟩:=H
         replace H:(if t194=true then(spec_l4Second.l0 k2 a0 (wrap64 (x3_2+1)) (wrap64 (0+1)))else(spec_l4Second.j2 k2 a0 x3_2 (wrap64 (0+1))))=some r:=H
         have A10:=Aside0.mk A100
         clear A100
         by_cases c11:t194=true
         ·subst c11
          have H1:(spec_l4Second.l0 k2 a0 (wrap64 (x3_2+1)) (wrap64 (0+1)))=some r:=by rw [if_pos rfl]at H;exact H
          clear H
          have H:=H1
          clear H1
          have H':=Aside0.mk H
          clear H
          have p9:0≤(x3_2:Int):=of_decide_eq_true (by first|(with_reducible assumption)|assumption)
          have q9:x3_2<(a0.size:Int):=of_decide_eq_true (by first|(with_reducible assumption)|assumption)
          have hx9:=bt_at a0 x3_2
          replace p9:=eq_true p9
          replace q9:=eq_true q9
          go_wp2_with (first|(go_at_call 134;(with_reducible refine(spec_l1Digit.calls (bt a0 x3_2) true _ A10.out).mono ?_);rintro e w' ⟨rfl,⟨nd,rfl⟩⟩))
          go_roundg k2
          case measure=>have:=HJ1.out;have:=HK2.out;omega
          case rel=>exact⟨(wrap64 (x3_2+1)),(by first|rfl|(simp;done)|(simp [*];done)|(simp;unfold wrap64;omega)),H',⟨by have:=HJ1.out;have:=HK2.out;omega⟩,by repeat(first|exact Drawn0.refl _|apply Drawn0.step)⟩
         ·replace c11:=Bool.eq_false_iff.mpr c11
          subst c11
          have H1:(spec_l4Second.j2 k2 a0 x3_2 (wrap64 (0+1)))=some r:=by rw [if_neg (show ¬ (false=true)by decide)]at H;exact H
          clear H
          have H:=H1
          clear H1
          have H':=Aside0.mk H
          clear H
          have p9:0≤(x3_2:Int):=of_decide_eq_true (by first|(with_reducible assumption)|assumption)
          have q9:x3_2<(a0.size:Int):=of_decide_eq_true (by first|(with_reducible assumption)|assumption)
          have hx9:=bt_at a0 x3_2
          replace p9:=eq_true p9
          replace q9:=eq_true q9
          go_wp2_with (first|(go_at_call 134;(with_reducible refine(spec_l1Digit.calls (bt a0 x3_2) false _ A10.out).mono ?_);rintro e w' ⟨rfl,⟨nd,rfl⟩⟩))
          go_meet
          case rel=>exact⟨_,(x3_2),((wrap64 (0+1))),(by first|rfl|(simp;done)|(simp [*];done)|(simp;unfold wrap64;omega)),(by first|rfl|(simp;done)|(simp [*];done)|(simp;unfold wrap64;omega)),H',⟨by have:=HJ1.out;have:=HK2.out;first|omega|exact Nat.le_refl _⟩,by repeat(first|exact Drawn0.refl _|apply Drawn0.step)⟩
        ·rw [if_neg c8]at H
         exact absurd H (by simp)
       ·rw [if_neg c7]at H
        have c7b0:decide (x3_2<(a0.size:Int))=false:=decide_eq_false c7
        clear c7
        (first|rw [c7b0]|(simp only [i64_w,i32_w];rw [c7b0])|skip)
        have H':=Aside0.mk H
        clear H
        go_wp2
        go_meet
        case rel=>exact⟨_,(x3_2),((wrap64 (0+1))),(by first|rfl|(simp;done)|(simp [*];done)|(simp;unfold wrap64;omega)),(by first|rfl|(simp;done)|(simp [*];done)|(simp;unfold wrap64;omega)),H',⟨by have:=HJ1.out;have:=HK2.out;first|omega|exact Nat.le_refl _⟩,by repeat(first|exact Drawn0.refl _|apply Drawn0.step)⟩
    ·replace c6:=Bool.eq_false_iff.mpr c6
     subst c6
     have H1:(spec_l4Second.j2 kj1 a0 0 0)=some r:=by rw [if_neg (show ¬ (false=true)by decide)]at H;exact H
     clear H
     have H:=H1
     clear H1
     have H':=Aside0.mk H
     clear H
     go_wp2
     go_meet
     case rel=>exact⟨_,(0),(0),(by first|rfl|(simp;done)|(simp [*];done)|(simp;unfold wrap64;omega)),(by first|rfl|(simp;done)|(simp [*];done)|(simp;unfold wrap64;omega)),H',⟨by have:=HJ1.out;first|omega|exact Nat.le_refl _⟩,by repeat(first|exact Drawn0.refl _|apply Drawn0.step)⟩
   case rest=>
    clear HC5
    try clear c1
    try clear p2
    try clear c3
    try clear c3b0
    try clear c3b1
    try clear p4
    try clear q4
    try clear hx4
    try clear qi4
    try clear c6
    try clear p6
    try clear c7
    try clear c7b0
    try clear c8
    try clear c8b0
    try clear p9
    try clear q9
    try clear hx9
    try clear c11
    try clear p2
    try clear p4
    try clear p6
    try clear p9
    try clear q4
    try clear q9
    obtain⟨kq,x3_4,x4_4,rfl,rfl,HA,HJ4,⟨mc4,rfl⟩⟩:=hcut
    cases kq with
    |zero=>exact absurd HA.out (by simp [spec_l4Second.j2])
    |succ kj4=>
     have H:=HA.out
     clear HA
     simp only [spec_l4Second.j2]at H
     have HC12:=Aside0.mk H
     clear H
     go_upto_region 8 with (fail)
     go_cut [40] (fun v40 wc=>∃ (kq:Nat) (x40_11:Bool),v40= .bool x40_11∧Aside0 (spec_l4Second.j3 kq a0 x3_4 x4_4 x40_11=some r)∧Aside0 (kq≤kj4)∧Drawn0 w wc)
     case first=>
      have H:=HC12.out
      clear HC12
      by_cases c13:x3_4<(a0.size:Int)
      ·rw [if_pos c13]at H
       have c13b0:decide (x3_4<(a0.size:Int))=true:=decide_eq_true c13
       clear c13
       (first|rw [c13b0]|(simp only [i64_w,i32_w];rw [c13b0])|skip)
       by_cases c14:0≤x3_4
       ·rw [if_pos c14]at H
        have c14b0:decide (0≤x3_4)=true:=decide_eq_true c14
        clear c14
        have H':=Aside0.mk H
        clear H
        have p15:0≤(x3_4:Int):=of_decide_eq_true (by first|(with_reducible assumption)|assumption)
        have q15:x3_4<(a0.size:Int):=of_decide_eq_true (by first|(with_reducible assumption)|assumption)
        have hx15:=bt_at a0 x3_4
        replace p15:=eq_true p15
        replace q15:=eq_true q15
        go_wp2
        go_meet
        case rel=>exact⟨_,(((bt a0 x3_4)==67)),(by first|rfl|(simp;done)|(simp [*];done)|(simp;unfold wrap64;omega)),H',⟨by have:=HJ1.out;have:=HJ4.out;first|omega|exact Nat.le_refl _⟩,by repeat(first|exact Drawn0.refl _|apply Drawn0.step)⟩
       ·rw [if_neg c14]at H
        exact absurd H (by simp)
      ·rw [if_neg c13]at H
       have c13b0:decide (x3_4<(a0.size:Int))=false:=decide_eq_false c13
       clear c13
       (first|rw [c13b0]|(simp only [i64_w,i32_w];rw [c13b0])|skip)
       have H':=Aside0.mk H
       clear H
       go_wp2
       go_meet
       case rel=>exact⟨_,(false),(by first|rfl|(simp;done)|(simp [*];done)|(simp;unfold wrap64;omega)),H',⟨by have:=HJ1.out;have:=HJ4.out;first|omega|exact Nat.le_refl _⟩,by repeat(first|exact Drawn0.refl _|apply Drawn0.step)⟩
     case rest=>
      clear HC12
      try clear c1
      try clear p1
      try clear q1
      try clear hx1
      try clear p2
      try clear c3
      try clear c3b0
      try clear c3b1
      try clear c4
      try clear p4
      try clear q4
      try clear hx4
      try clear qi4
      try clear c6
      try clear p6
      try clear c7
      try clear c7b0
      try clear c8
      try clear c8b0
      try clear p9
      try clear q9
      try clear hx9
      try clear c11
      try clear c13
      try clear c13b0
      try clear c14
      try clear c14b0
      try clear p15
      try clear q15
      try clear hx15
      try clear p15
      try clear p2
      try clear p4
      try clear p6
      try clear p9
      try clear q15
      try clear q4
      try clear q9
      obtain⟨kq,x40_11,rfl,HA,HJ11,⟨mc11,rfl⟩⟩:=hcut
      cases kq with
      |zero=>exact absurd HA.out (by simp [spec_l4Second.j3])
      |succ kj11=>
       have H:=HA.out
       clear HA
       simp only [spec_l4Second.j3]at H
       by_cases c16:x40_11=true
       ·subst c16
        have H1:(spec_l4Second.l1 kj11 a0 (wrap64 (x3_4+1)) (wrap64 (x4_4+1)))=some r:=by rw [if_pos rfl]at H;exact H
        clear H
        have H:=H1
        clear H1
        have H':=Aside0.mk H
        clear H
        go_wp2
        go_loopg [3] kj11 (fun kq v3 w'=>∃ (x3_4:Int),v3= .int .i64 x3_4∧Aside0 (spec_l4Second.l1 kq a0 x3_4 (wrap64 (x4_4+1))=some r)∧Aside0 (kq≤kj11)∧Drawn0 w w')
        case atStart=>exact⟨(wrap64 (x3_4+1)),(by first|rfl|(simp;done)|(simp [*];done)|(simp;unfold wrap64;omega)),H',⟨Nat.le_refl _⟩,by repeat(first|exact Drawn0.refl _|apply Drawn0.step)⟩
        case round=>
         clear H'
         try clear c1
         try clear p1
         try clear q1
         try clear hx1
         try clear p2
         try clear c3
         try clear c3b0
         try clear c3b1
         try clear c4
         try clear p4
         try clear q4
         try clear hx4
         try clear qi4
         try clear c6
         try clear p6
         try clear c7
         try clear c7b0
         try clear c8
         try clear c8b0
         try clear p9
         try clear q9
         try clear hx9
         try clear c11
         try clear c13
         try clear c13b0
         try clear c14
         try clear c14b0
         try clear p15
         try clear q15
         try clear hx15
         try clear c16
         try clear p1
         try clear p15
         try clear p2
         try clear p4
         try clear p6
         try clear p9
         try clear q1
         try clear q15
         try clear q4
         try clear q9
         obtain⟨x3_4,rfl,HA,HK4,⟨m4,rfl⟩⟩:=hrel
         cases gk with
         |zero=>exact absurd HA.out (by simp [spec_l4Second.l1])
         |succ k4=>
          have H:=HA.out
          clear HA
          simp only [spec_l4Second.l1]at H
          by_cases c17:x3_4<(a0.size:Int)
          ·rw [if_pos c17]at H
           have c17b0:decide (x3_4<(a0.size:Int))=true:=decide_eq_true c17
           clear c17
           by_cases c18:0≤x3_4
           ·rw [if_pos c18]at H
            have c18b0:decide (0≤x3_4)=true:=decide_eq_true c18
            clear c18
            replace H:=Option.bind_eq_some_iff.mp H
            obtain⟨t195,A200,H⟩:=H
            replace H:(if t195=true then(spec_l4Second.l1 k4 a0 (wrap64 (x3_4+1)) (wrap64 (x4_4+1)))else(if(wrap64 (x4_4+1)) > 0 then(some (x3_4==(a0.size:Int)))else(some false)))=some r:=H
            have A20:=Aside0.mk A200
            clear A200
            by_cases c21:t195=true
            ·subst c21
             have H1:(spec_l4Second.l1 k4 a0 (wrap64 (x3_4+1)) (wrap64 (x4_4+1)))=some r:=by rw [if_pos rfl]at H;exact H
             clear H
             have H:=H1
             clear H1
             have H':=Aside0.mk H
             clear H
             have p19:0≤(x3_4:Int):=of_decide_eq_true (by first|(with_reducible assumption)|assumption)
             have q19:x3_4<(a0.size:Int):=of_decide_eq_true (by first|(with_reducible assumption)|assumption)
             have hx19:=bt_at a0 x3_4
             replace p19:=eq_true p19
             replace q19:=eq_true q19
             go_wp2_with (first|(go_at_call 134;(with_reducible refine(spec_l1Digit.calls (bt a0 x3_4) true _ A20.out).mono ?_);rintro e w' ⟨rfl,⟨nd,rfl⟩⟩))
             go_roundg k4
             case measure=>have:=HJ1.out;have:=HJ4.out;have:=HJ11.out;have:=HK4.out;omega
             case rel=>exact⟨(wrap64 (x3_4+1)),(by first|rfl|(simp;done)|(simp [*];done)|(simp;unfold wrap64;omega)),H',⟨by have:=HJ1.out;have:=HJ4.out;have:=HJ11.out;have:=HK4.out;omega⟩,by repeat(first|exact Drawn0.refl _|apply Drawn0.step)⟩
            ·replace c21:=Bool.eq_false_iff.mpr c21
             subst c21
             have H1:(if(wrap64 (x4_4+1)) > 0 then(some (x3_4==(a0.size:Int)))else(some false))=some r:=by rw [if_neg (show ¬ (false=true)by decide)]at H;exact H
             clear H
             have H:=H1
             clear H1
             by_cases c22:(wrap64 (x4_4+1)) > 0
             ·rw [if_pos c22]at H
              have c22b0:decide (0<(wrap64 (x4_4+1)))=true:=decide_eq_true c22
              clear c22
              obtain rfl:=Option.some.inj H
              have p19:0≤(x3_4:Int):=of_decide_eq_true (by first|(with_reducible assumption)|assumption)
              have q19:x3_4<(a0.size:Int):=of_decide_eq_true (by first|(with_reducible assumption)|assumption)
              have hx19:=bt_at a0 x3_4
              replace p19:=eq_true p19
              replace q19:=eq_true q19
              go_wp2_with (first|(go_at_call 134;(with_reducible refine(spec_l1Digit.calls (bt a0 x3_4) false _ A20.out).mono ?_);rintro e w' ⟨rfl,⟨nd,rfl⟩⟩))
              go_ret
              exact⟨by first|rfl|(simp;done)|(simp [*];done),by repeat(first|exact Drawn0.refl _|apply Drawn0.step)⟩
             ·rw [if_neg c22]at H
              have c22b0:decide (0<(wrap64 (x4_4+1)))=false:=decide_eq_false c22
              clear c22
              obtain rfl:=Option.some.inj H
              have p19:0≤(x3_4:Int):=of_decide_eq_true (by first|(with_reducible assumption)|assumption)
              have q19:x3_4<(a0.size:Int):=of_decide_eq_true (by first|(with_reducible assumption)|assumption)
              have hx19:=bt_at a0 x3_4
              replace p19:=eq_true p19
              replace q19:=eq_true q19
              go_wp2_with (first|(go_at_call 134;(with_reducible refine(spec_l1Digit.calls (bt a0 x3_4) false _ A20.out).mono ?_);rintro e w' ⟨rfl,⟨nd,rfl⟩⟩))
              go_ret
              exact⟨by first|rfl|(simp;done)|(simp [*];done),by repeat(first|exact Drawn0.refl _|apply Drawn0.step)⟩
           ·rw [if_neg c18]at H
            exact absurd H (by simp)
          ·rw [if_neg c17]at H
           have c17b0:decide (x3_4<(a0.size:Int))=false:=decide_eq_false c17
           clear c17
           by_cases c23:(wrap64 (x4_4+1)) > 0
           ·rw [if_pos c23]at H
            have c23b0:decide (0<(wrap64 (x4_4+1)))=true:=decide_eq_true c23
            clear c23
            obtain rfl:=Option.some.inj H
            go_wp2
            go_ret
            exact⟨by first|rfl|(simp;done)|(simp [*];done),by repeat(first|exact Drawn0.refl _|apply Drawn0.step)⟩
           ·rw [if_neg c23]at H
            have c23b0:decide (0<(wrap64 (x4_4+1)))=false:=decide_eq_false c23
            clear c23
            obtain rfl:=Option.some.inj H
            go_wp2
            go_ret
            exact⟨by first|rfl|(simp;done)|(simp [*];done),by repeat(first|exact Drawn0.refl _|apply Drawn0.step)⟩
       ·replace c16:=Bool.eq_false_iff.mpr c16
        subst c16
        have H1:(if x4_4 > 0 then(some (x3_4==(a0.size:Int)))else(some false))=some r:=by rw [if_neg (show ¬ (false=true)by decide)]at H;exact H
        clear H
        have H:=H1
        clear H1
        by_cases c24:x4_4 > 0
        ·rw [if_pos c24]at H
         have c24b0:decide (0<x4_4)=true:=decide_eq_true c24
         clear c24
         obtain rfl:=Option.some.inj H
         go_wp2
         go_ret
         exact⟨by first|rfl|(simp;done)|(simp [*];done),by repeat(first|exact Drawn0.refl _|apply Drawn0.step)⟩
        ·rw [if_neg c24]at H
         have c24b0:decide (0<x4_4)=false:=decide_eq_false c24
         clear c24
         obtain rfl:=Option.some.inj H
         go_wp2
         go_ret
         exact⟨by first|rfl|(simp;done)|(simp [*];done),by repeat(first|exact Drawn0.refl _|apply Drawn0.step)⟩



/-! ### spec_l2Number: function 117 -/

mutual
def spec_l2Number.j0:Nat→ByteArray→Bool→Option (Int)
 |0,_,_=>none
 |k+1,x0,x12=>if x12=true then(some (-1))else(spec_l2Number.l0 k x0 0 0)
def spec_l2Number.l0:Nat→ByteArray→Int→Int→Option (Int)
 |0,_,_,_=>none
 |k+1,x0,x3,x4=>if x4<(x0.size:Int)then(if 0≤x4 then((spec_l1Digit.f (bt x0 x4)).bind fun t196=>(if t196=true then(spec_l2Number.l0 k x0 (wrap64 ((wrap64 (x3*10))+(((bt x0 x4)-48) % 256))) (wrap64 (x4+1)))else(some (-1))))else(none))else(some x3)
end

def spec_l2Number.f (k:Nat) (a0:ByteArray):Option (Int):=if(a0.size:Int)<1 then(spec_l2Number.j0 k a0 true)else(spec_l2Number.j0 k a0 (decide ((a0.size:Int) > 6)))

theorem spec_l2Number.mono_l:∀ k,(∀ y0 y1,LeO (spec_l2Number.j0 k y0 y1) (spec_l2Number.j0 (k+1) y0 y1))∧(∀ y0 y1 y2,LeO (spec_l2Number.l0 k y0 y1 y2) (spec_l2Number.l0 (k+1) y0 y1 y2))
 |0=>⟨fun _ _ r h=>by simp [spec_l2Number.j0]at h,fun _ _ _ r h=>by simp [spec_l2Number.l0]at h⟩
 |k+1=>by
  obtain⟨ih0,ih1⟩:=spec_l2Number.mono_l k
  refine⟨?_,?_⟩
  ·intro y0 y1
   unfold spec_l2Number.j0
   repeat' first
   |(with_reducible exact ih0 _ _)
   |(with_reducible exact ih1 _ _ _)
   |(with_reducible exact LeO.refl _)
   |(with_reducible exact LeO.none _)
   |(with_reducible refine LeO.ite ?_ ?_)
   |(with_reducible refine LeO.bind ?_ (fun _=> ?_))
   |exact ih0 _ _
   |exact ih1 _ _ _
   |exact LeO.none _
   |refine LeO.ite ?_ ?_
   |refine LeO.bind ?_ (fun _=> ?_)
  ·intro y0 y1 y2
   unfold spec_l2Number.l0
   repeat' first
   |(with_reducible exact ih0 _ _)
   |(with_reducible exact ih1 _ _ _)
   |(with_reducible exact LeO.refl _)
   |(with_reducible exact LeO.none _)
   |(with_reducible refine LeO.ite ?_ ?_)
   |(with_reducible refine LeO.bind ?_ (fun _=> ?_))
   |exact ih0 _ _
   |exact ih1 _ _ _
   |exact LeO.none _
   |refine LeO.ite ?_ ?_
   |refine LeO.bind ?_ (fun _=> ?_)

theorem spec_l2Number.mono:∀ a0 k,LeO (spec_l2Number.f k a0) (spec_l2Number.f (k+1) a0):=by
 intro a0 k
 obtain⟨ih0,ih1⟩:=spec_l2Number.mono_l k
 unfold spec_l2Number.f
 repeat' first
   |(with_reducible exact ih0 _ _)
   |(with_reducible exact ih1 _ _ _)
   |(with_reducible exact LeO.refl _)
   |(with_reducible exact LeO.none _)
   |(with_reducible refine LeO.ite ?_ ?_)
   |(with_reducible refine LeO.bind ?_ (fun _=> ?_))
   |exact ih0 _ _
   |exact ih1 _ _ _
   |exact LeO.none _
   |refine LeO.ite ?_ ?_
   |refine LeO.bind ?_ (fun _=> ?_)

end Go.Proofs.YtegdpgpbdcediaaGreatDoor.PFnExactUsedNames
