/- Functions of the program as Lean functions, and proofs that the Go code comes to their answers: for the law FnExactUsedNames; made out of the print by a program of mine (compact.py). No conditions but each theorem's own. -/
import Derived.Test.YtegdpgpbdcediaaGreatDoorMFnExactUsedNamesa0
import Derived.Test.YtegdpgpbdcediaaGreatDoorMFnExactUsedNamesa9
namespace Go.Proofs.YtegdpgpbdcediaaGreatDoor.PFnExactUsedNames
open List (map_toArray map_cons map_nil length_drop length_take set_cons_zero set_cons_succ setIfInBounds_toArray)
open Go.RowKit Go.Proofs.YtegdpgpbdcediaaGreatDoorW.PrintWords Go.Proofs.YtegdpgpbdcediaaGreatDoorW.PrintLast Go.Proofs.YtegdpgpbdcediaaGreatDoorW.PrintMore
attribute [local go_sem] max2_int min2_int max_two min_two max_three min_three max_four min_four   -- for this text's walks alone
set_option linter.unusedVariables false
set_option linter.unusedSimpArgs false

attribute [local go_sem high] eqA47 eqA65
set_option maxHeartbeats 8000000 in
set_option maxRecDepth 100000 in
theorem impl_GoodRef.calls (a0_0:Int) (a0_1:Int) (a0_2:Bool) (a0_3:Bool) (r:Bool) (w:World) (h:impl_GoodRef.f a0_0 a0_1 a0_2 a0_3=some r):
  Calls Tryz.prog 49 #[.agg #[.int .i64 a0_0,.int .i64 a0_1,.bool a0_2,.bool a0_3]] w fun e w'=>e= .returned (.bool r)∧Below w.heap.size w w':=by
 have hu47:=Tryz.underlying47
 have HB:=Aside0.mk (Below.refl w.heap.size w)
 have H:((impl_Ref_place.f a0_0 a0_1 a0_2 a0_3).bind fun bt397=>((impl_place_good.f bt397.1 bt397.2).bind fun t399=>(some t399)))=some r:=h
 clear h
 replace H:=Option.bind_eq_some_iff.mp H
 obtain⟨⟨t397,t398⟩,A20,H⟩:=H
 replace H:((impl_place_good.f t397 t398).bind fun t399=>(some t399))=some r:=H
 have A2:=Aside0.mk A20
 clear A20
 replace H:=Option.bind_eq_some_iff.mp H
 obtain⟨t399,A30,H⟩:=H
 replace H:(some t399)=some r:=H
 have A3:=Aside0.mk A30
 clear A30
 obtain rfl:=Option.some.inj H
 go_enter Tryz.func49,Tryz.ntmps49
 go_wp2_with (first|((with_reducible refine z15q (N:=1) rfl ?_);refine z13q ?hg (N:=1) ?hd (cs:=#[.int .i64 a0_0,.int .i64 a0_1,.bool a0_2,.bool a0_3]) (t:=47) ?hr ?_;(case hd=>rfl);(case hg=>rfl);(case hr=>first|(go_simp;done)|(go_simp;rfl));intro gb396 hg w4 hbox hb;have n0_:=Aside0.mk (z5q (ibh HB.out) hb);have n1_:=Aside0.mk (hbox);have n2_:=Aside0.mk ((by rw [hg];exact(z6q (ibh HB.out)):w.heap.size≤gb396));have n3_:=Aside0.mk ((by rw [hg];exact(z6q (ibh HB.out)):w.heap.size≤gb396));clear HB;have HB:=n0_;have BK396:=n1_;have GW396:=n2_;have GE396:=n3_;clear n0_ n1_ n2_ n3_;clear hb hbox hg;obtain⟨hcz5_0,hcz5_1,hcz5_2,hcz5_3,hfz5_0,hfz5_1,hfz5_2,hfz5_3⟩:=cr4 (w:=w4) (g:=gb396) BK396.out)|((with_reducible refine z8q (f:=61) rfl ?_);refine z17q (some 4) rfl rfl Tryz.func61 (by kernel_rfl) rfl #[.agg #[.int .i64 a0_0,.int .i64 a0_1,.bool a0_2,.bool a0_3]] rfl (by(try simp only [map_toArray,map_cons,map_nil]);first|done|rfl|(simp only [length_drop,length_take];rfl)) ?_;(with_reducible refine(impl_Ref_place.calls a0_0 a0_1 a0_2 a0_3 t397 t398 _ A2.out).mono ?_);rintro e w6 ⟨rfl,hb⟩;refine⟨_,rfl,?_⟩;have n0_:=Aside0.mk (z12q (cy BK396.out) hb);have n1_:=Aside0.mk (z5q (ibh HB.out) hb);clear BK396;clear HB;have BK396:=n0_;have HB:=n1_;clear n0_ n1_;(try clear hb);(try clear hb2);(try clear hk);(try clear hi))|((with_reducible refine z8q (f:=78) rfl ?_);refine z17q (some 5) rfl rfl Tryz.func78 (by kernel_rfl) rfl #[.agg #[.int .i64 t397,.int .i64 t398]] rfl (by(try simp only [map_toArray,map_cons,map_nil]);first|done|rfl|(simp only [length_drop,length_take];rfl)) ?_;(with_reducible refine(impl_place_good.calls t397 t398 t399 _ A3.out).mono ?_);rintro e w7 ⟨rfl,hb⟩;refine⟨_,rfl,?_⟩;have n0_:=Aside0.mk (z12q (cy BK396.out) hb);have n1_:=Aside0.mk (z5q (ibh HB.out) hb);clear BK396;clear HB;have BK396:=n0_;have HB:=n1_;clear n0_ n1_;(try clear hb);(try clear hb2);(try clear hk);(try clear hi)))
 go_ret
 exact⟨by first|rfl|(simp [errW_none,errW_some]<;>rfl)|(simp [*,errW_none,errW_some]<;>rfl),by repeat(first|(with_reducible first|exact HB.out|apply z2q|apply z3q|apply z4q|refine z7q ?_ GE396.out)|exact HB.out)⟩



/-! ### impl_isGoodDec: function 95 -/

def impl_isGoodDec.f (a0_0:Bool) (a0_1:Int) (a0_2:Int):Option (Bool):=if(!a0_0 && (a0_1==0 && (a0_2==0)))=true then(some true)else(if a0_1≥1 then(if a0_1≤999999999999999 then(if(Int.tmod a0_1 10)=0 then(some false)else(if a0_2≥(-300)then(some (decide (a0_2≤300)))else(some false)))else(some false))else(some false))

set_option maxHeartbeats 8000000 in
set_option maxRecDepth 100000 in
theorem impl_isGoodDec.calls (a0_0:Bool) (a0_1:Int) (a0_2:Int) (r:Bool) (w:World) (h:impl_isGoodDec.f a0_0 a0_1 a0_2=some r):
  Calls Tryz.prog 95 #[.agg #[.bool a0_0,.int .i64 a0_1,.int .i64 a0_2]] w fun e w'=>e= .returned (.bool r)∧Below w.heap.size w w':=by
 have hu65:=Tryz.underlying65
 have HB:=Aside0.mk (Below.refl w.heap.size w)
 have H:(if(!a0_0 && (a0_1==0 && (a0_2==0)))=true then(some true)else(if a0_1≥1 then(if a0_1≤999999999999999 then(if(Int.tmod a0_1 10)=0 then(some false)else(if a0_2≥(-300)then(some (decide (a0_2≤300)))else(some false)))else(some false))else(some false)))=some r:=h
 clear h
 by_cases c2:(!a0_0 && (a0_1==0 && (a0_2==0)))=true
 ·rw [if_pos c2]at H
  have c2b0:(!a0_0 && (a0_1==0 && (a0_2==0)))=true:=c2
  clear c2
  obtain rfl:=Option.some.inj H
  go_enter Tryz.func95,Tryz.ntmps95
  go_wp2_with (first|((with_reducible refine z15q (N:=1) rfl ?_);refine z13q ?hg (N:=1) ?hd (cs:=#[.bool a0_0,.int .i64 a0_1,.int .i64 a0_2]) (t:=65) ?hr ?_;(case hd=>rfl);(case hg=>rfl);(case hr=>first|(go_simp;done)|(go_simp;rfl));intro gb400 hg w3 hbox hb;have n0_:=Aside0.mk (z5q (ibh HB.out) hb);have n1_:=Aside0.mk (hbox);have n2_:=Aside0.mk ((by rw [hg];exact(z6q (ibh HB.out)):w.heap.size≤gb400));have n3_:=Aside0.mk ((by rw [hg];exact(z6q (ibh HB.out)):w.heap.size≤gb400));clear HB;have HB:=n0_;have BK400:=n1_;have GW400:=n2_;have GE400:=n3_;clear n0_ n1_ n2_ n3_;clear hb hbox hg;obtain⟨hcz4_0,hcz4_1,hcz4_2,hfz4_0,hfz4_1,hfz4_2⟩:=cr3 (w:=w3) (g:=gb400) BK400.out))
  go_ret
  exact⟨by first|rfl|(simp [errW_none,errW_some]<;>rfl)|(simp [*,errW_none,errW_some]<;>rfl),by repeat(first|(with_reducible first|exact HB.out|apply z2q|apply z3q|apply z4q|refine z7q ?_ GE400.out)|exact HB.out)⟩
 ·rw [if_neg c2]at H
  have c2b0:(!a0_0 && (a0_1==0 && (a0_2==0)))=false:=by simpa using c2
  clear c2
  by_cases c5:a0_1≥1
  ·rw [if_pos c5]at H
   have c5b0:decide (1≤a0_1)=true:=decide_eq_true c5
   clear c5
   by_cases c6:a0_1≤999999999999999
   ·rw [if_pos c6]at H
    have c6b0:decide (a0_1≤999999999999999)=true:=decide_eq_true c6
    clear c6
    by_cases c7:(Int.tmod a0_1 10)=0
    ·rw [if_pos c7]at H
     have c7b0:((Int.tmod a0_1 10)==0)=true:=beq_iff_eq.mpr c7
     have c7b1:((Int.tmod a0_1 10) !=0)=false:=bne_eq_false_iff_eq.mpr c7
     clear c7
     obtain rfl:=Option.some.inj H
     go_enter Tryz.func95,Tryz.ntmps95
     go_wp2_with (first|((with_reducible refine z15q (N:=1) rfl ?_);refine z13q ?hg (N:=1) ?hd (cs:=#[.bool a0_0,.int .i64 a0_1,.int .i64 a0_2]) (t:=65) ?hr ?_;(case hd=>rfl);(case hg=>rfl);(case hr=>first|(go_simp;done)|(go_simp;rfl));intro gb400 hg w8 hbox hb;have n0_:=Aside0.mk (z5q (ibh HB.out) hb);have n1_:=Aside0.mk (hbox);have n2_:=Aside0.mk ((by rw [hg];exact(z6q (ibh HB.out)):w.heap.size≤gb400));have n3_:=Aside0.mk ((by rw [hg];exact(z6q (ibh HB.out)):w.heap.size≤gb400));clear HB;have HB:=n0_;have BK400:=n1_;have GW400:=n2_;have GE400:=n3_;clear n0_ n1_ n2_ n3_;clear hb hbox hg;obtain⟨hcz9_0,hcz9_1,hcz9_2,hfz9_0,hfz9_1,hfz9_2⟩:=cr3 (w:=w8) (g:=gb400) BK400.out))
     go_ret
     exact⟨by first|rfl|(simp [errW_none,errW_some]<;>rfl)|(simp [*,errW_none,errW_some]<;>rfl),by repeat(first|(with_reducible first|exact HB.out|apply z2q|apply z3q|apply z4q|refine z7q ?_ GE400.out)|exact HB.out)⟩
    ·rw [if_neg c7]at H
     have c7b0:((Int.tmod a0_1 10)==0)=false:=beq_eq_false_iff_ne.mpr c7
     have c7b1:((Int.tmod a0_1 10) !=0)=true:=bne_iff_ne.mpr c7
     by_cases c10:a0_2≥(-300)
     ·rw [if_pos c10]at H
      have c10b0:decide ((-300)≤a0_2)=true:=decide_eq_true c10
      clear c10
      obtain rfl:=Option.some.inj H
      go_enter Tryz.func95,Tryz.ntmps95
      go_wp2_with (first|((with_reducible refine z15q (N:=1) rfl ?_);refine z13q ?hg (N:=1) ?hd (cs:=#[.bool a0_0,.int .i64 a0_1,.int .i64 a0_2]) (t:=65) ?hr ?_;(case hd=>rfl);(case hg=>rfl);(case hr=>first|(go_simp;done)|(go_simp;rfl));intro gb400 hg w11 hbox hb;have n0_:=Aside0.mk (z5q (ibh HB.out) hb);have n1_:=Aside0.mk (hbox);have n2_:=Aside0.mk ((by rw [hg];exact(z6q (ibh HB.out)):w.heap.size≤gb400));have n3_:=Aside0.mk ((by rw [hg];exact(z6q (ibh HB.out)):w.heap.size≤gb400));clear HB;have HB:=n0_;have BK400:=n1_;have GW400:=n2_;have GE400:=n3_;clear n0_ n1_ n2_ n3_;clear hb hbox hg;obtain⟨hcz12_0,hcz12_1,hcz12_2,hfz12_0,hfz12_1,hfz12_2⟩:=cr3 (w:=w11) (g:=gb400) BK400.out))
      go_ret
      exact⟨by first|rfl|(simp [errW_none,errW_some]<;>rfl)|(simp [*,errW_none,errW_some]<;>rfl),by repeat(first|(with_reducible first|exact HB.out|apply z2q|apply z3q|apply z4q|refine z7q ?_ GE400.out)|exact HB.out)⟩
     ·rw [if_neg c10]at H
      have c10b0:decide ((-300)≤a0_2)=false:=decide_eq_false c10
      clear c10
      obtain rfl:=Option.some.inj H
      go_enter Tryz.func95,Tryz.ntmps95
      go_wp2_with (first|((with_reducible refine z15q (N:=1) rfl ?_);refine z13q ?hg (N:=1) ?hd (cs:=#[.bool a0_0,.int .i64 a0_1,.int .i64 a0_2]) (t:=65) ?hr ?_;(case hd=>rfl);(case hg=>rfl);(case hr=>first|(go_simp;done)|(go_simp;rfl));intro gb400 hg w13 hbox hb;have n0_:=Aside0.mk (z5q (ibh HB.out) hb);have n1_:=Aside0.mk (hbox);have n2_:=Aside0.mk ((by rw [hg];exact(z6q (ibh HB.out)):w.heap.size≤gb400));have n3_:=Aside0.mk ((by rw [hg];exact(z6q (ibh HB.out)):w.heap.size≤gb400));clear HB;have HB:=n0_;have BK400:=n1_;have GW400:=n2_;have GE400:=n3_;clear n0_ n1_ n2_ n3_;clear hb hbox hg;obtain⟨hcz14_0,hcz14_1,hcz14_2,hfz14_0,hfz14_1,hfz14_2⟩:=cr3 (w:=w13) (g:=gb400) BK400.out))
      go_ret
      exact⟨by first|rfl|(simp [errW_none,errW_some]<;>rfl)|(simp [*,errW_none,errW_some]<;>rfl),by repeat(first|(with_reducible first|exact HB.out|apply z2q|apply z3q|apply z4q|refine z7q ?_ GE400.out)|exact HB.out)⟩
   ·rw [if_neg c6]at H
    have c6b0:decide (a0_1≤999999999999999)=false:=decide_eq_false c6
    clear c6
    obtain rfl:=Option.some.inj H
    go_enter Tryz.func95,Tryz.ntmps95
    go_wp2_with (first|((with_reducible refine z15q (N:=1) rfl ?_);refine z13q ?hg (N:=1) ?hd (cs:=#[.bool a0_0,.int .i64 a0_1,.int .i64 a0_2]) (t:=65) ?hr ?_;(case hd=>rfl);(case hg=>rfl);(case hr=>first|(go_simp;done)|(go_simp;rfl));intro gb400 hg w15 hbox hb;have n0_:=Aside0.mk (z5q (ibh HB.out) hb);have n1_:=Aside0.mk (hbox);have n2_:=Aside0.mk ((by rw [hg];exact(z6q (ibh HB.out)):w.heap.size≤gb400));have n3_:=Aside0.mk ((by rw [hg];exact(z6q (ibh HB.out)):w.heap.size≤gb400));clear HB;have HB:=n0_;have BK400:=n1_;have GW400:=n2_;have GE400:=n3_;clear n0_ n1_ n2_ n3_;clear hb hbox hg;obtain⟨hcz16_0,hcz16_1,hcz16_2,hfz16_0,hfz16_1,hfz16_2⟩:=cr3 (w:=w15) (g:=gb400) BK400.out))
    go_ret
    exact⟨by first|rfl|(simp [errW_none,errW_some]<;>rfl)|(simp [*,errW_none,errW_some]<;>rfl),by repeat(first|(with_reducible first|exact HB.out|apply z2q|apply z3q|apply z4q|refine z7q ?_ GE400.out)|exact HB.out)⟩
  ·rw [if_neg c5]at H
   have c5b0:decide (1≤a0_1)=false:=decide_eq_false c5
   clear c5
   obtain rfl:=Option.some.inj H
   go_enter Tryz.func95,Tryz.ntmps95
   go_wp2_with (first|((with_reducible refine z15q (N:=1) rfl ?_);refine z13q ?hg (N:=1) ?hd (cs:=#[.bool a0_0,.int .i64 a0_1,.int .i64 a0_2]) (t:=65) ?hr ?_;(case hd=>rfl);(case hg=>rfl);(case hr=>first|(go_simp;done)|(go_simp;rfl));intro gb400 hg w17 hbox hb;have n0_:=Aside0.mk (z5q (ibh HB.out) hb);have n1_:=Aside0.mk (hbox);have n2_:=Aside0.mk ((by rw [hg];exact(z6q (ibh HB.out)):w.heap.size≤gb400));have n3_:=Aside0.mk ((by rw [hg];exact(z6q (ibh HB.out)):w.heap.size≤gb400));clear HB;have HB:=n0_;have BK400:=n1_;have GW400:=n2_;have GE400:=n3_;clear n0_ n1_ n2_ n3_;clear hb hbox hg;obtain⟨hcz18_0,hcz18_1,hcz18_2,hfz18_0,hfz18_1,hfz18_2⟩:=cr3 (w:=w17) (g:=gb400) BK400.out))
   go_ret
   exact⟨by first|rfl|(simp [errW_none,errW_some]<;>rfl)|(simp [*,errW_none,errW_some]<;>rfl),by repeat(first|(with_reducible first|exact HB.out|apply z2q|apply z3q|apply z4q|refine z7q ?_ GE400.out)|exact HB.out)⟩



/-! ### impl_plainText: function 96 -/

def impl_plainText.l0:Nat→ByteArray→Int→Option (Bool)
 |0,_,_=>none
 |k+1,x0,x5=>if x5<(x0.size:Int)then(if 0≤x5 then(if(bt x0 x5)<32 then(some false)else(if(bt x0 x5) > 126 then(some false)else(impl_plainText.l0 k x0 (wrap64 (x5+1)))))else(none))else(some true)

def impl_plainText.f (k:Nat) (a0:ByteArray) (a1:Int):Option (Bool):=if(a0.size:Int) > a1 then(some false)else(impl_plainText.l0 k a0 0)

set_option maxHeartbeats 8000000 in
set_option maxRecDepth 100000 in
theorem impl_plainText.calls (k:Nat) (a0:ByteArray) (a1:Int) (r:Bool) (w:World) (h:impl_plainText.f k a0 a1=some r):
  Calls Tryz.prog 96 #[.string a0,.int .i64 a1] w fun e w'=>e= .returned (.bool r)∧Drawn0 w w':=by
 have H:(if(a0.size:Int) > a1 then(some false)else(impl_plainText.l0 k a0 0))=some r:=h
 clear h
 by_cases c3:(a0.size:Int) > a1
 ·rw [if_pos c3]at H
  have c3b0:decide (a1<(a0.size:Int))=true:=decide_eq_true c3
  clear c3
  obtain rfl:=Option.some.inj H
  go_enter Tryz.func96,Tryz.ntmps96
  go_wp2
  go_ret
  exact⟨by first|rfl|(simp;done)|(simp [*];done),by repeat(first|exact Drawn0.refl _|apply Drawn0.step)⟩
 ·rw [if_neg c3]at H
  have c3b0:decide (a1<(a0.size:Int))=false:=decide_eq_false c3
  clear c3
  have H':=Aside0.mk H
  clear H
  go_enter Tryz.func96,Tryz.ntmps96
  go_wp2
  go_loopg [5] k (fun kq v5 w'=>∃ (x5_1:Int),v5= .int .i64 x5_1∧Aside0 (impl_plainText.l0 kq a0 x5_1=some r)∧Aside0 (kq≤k)∧Drawn0 w w')
  case atStart=>exact⟨(0),(by first|rfl|(simp;done)|(simp [*];done)|(simp;unfold wrap64;omega)),H',⟨Nat.le_refl _⟩,by repeat(first|exact Drawn0.refl _|apply Drawn0.step)⟩
  case round=>
   clear H'
   try clear p2
   try clear c3
   try clear c3b0
   obtain⟨x5_1,rfl,HA,HK1,⟨m1,rfl⟩⟩:=hrel
   cases gk with
   |zero=>exact absurd HA.out (by simp [impl_plainText.l0])
   |succ k1=>
    have H:=HA.out
    clear HA
    simp only [impl_plainText.l0]at H
    by_cases c4:x5_1<(a0.size:Int)
    ·rw [if_pos c4]at H
     have c4b0:decide (x5_1<(a0.size:Int))=true:=decide_eq_true c4
     clear c4
     by_cases c5:0≤x5_1
     ·rw [if_pos c5]at H
      have c5b0:decide (0≤x5_1)=true:=decide_eq_true c5
      clear c5
      by_cases c7:(bt a0 x5_1)<32
      ·rw [if_pos c7]at H
       have c7b0:decide ((bt a0 x5_1)<32)=true:=decide_eq_true c7
       clear c7
       obtain rfl:=Option.some.inj H
       have p6:0≤(x5_1:Int):=of_decide_eq_true (by first|(with_reducible assumption)|assumption)
       have q6:x5_1<(a0.size:Int):=of_decide_eq_true (by first|(with_reducible assumption)|assumption)
       have hx6:=bt_at a0 x5_1
       replace p6:=eq_true p6
       replace q6:=eq_true q6
       go_wp2
       go_ret
       exact⟨by first|rfl|(simp;done)|(simp [*];done),by repeat(first|exact Drawn0.refl _|apply Drawn0.step)⟩
      ·rw [if_neg c7]at H
       have c7b0:decide ((bt a0 x5_1)<32)=false:=decide_eq_false c7
       clear c7
       by_cases c9:(bt a0 x5_1) > 126
       ·rw [if_pos c9]at H
        have c9b0:decide (126<(bt a0 x5_1))=true:=decide_eq_true c9
        clear c9
        obtain rfl:=Option.some.inj H
        have p6:0≤(x5_1:Int):=of_decide_eq_true (by first|(with_reducible assumption)|assumption)
        have q6:x5_1<(a0.size:Int):=of_decide_eq_true (by first|(with_reducible assumption)|assumption)
        have hx6:=bt_at a0 x5_1
        replace p6:=eq_true p6
        replace q6:=eq_true q6
        have p8:0≤(x5_1:Int):=of_decide_eq_true (by first|(with_reducible assumption)|assumption)
        have q8:x5_1<(a0.size:Int):=of_decide_eq_true (by first|(with_reducible assumption)|assumption)
        have hx8:=bt_at a0 x5_1
        replace p8:=eq_true p8
        replace q8:=eq_true q8
        go_wp2
        go_ret
        exact⟨by first|rfl|(simp;done)|(simp [*];done),by repeat(first|exact Drawn0.refl _|apply Drawn0.step)⟩
       ·rw [if_neg c9]at H
        have c9b0:decide (126<(bt a0 x5_1))=false:=decide_eq_false c9
        clear c9
        have H':=Aside0.mk H
        clear H
        have p6:0≤(x5_1:Int):=of_decide_eq_true (by first|(with_reducible assumption)|assumption)
        have q6:x5_1<(a0.size:Int):=of_decide_eq_true (by first|(with_reducible assumption)|assumption)
        have hx6:=bt_at a0 x5_1
        replace p6:=eq_true p6
        replace q6:=eq_true q6
        have p8:0≤(x5_1:Int):=of_decide_eq_true (by first|(with_reducible assumption)|assumption)
        have q8:x5_1<(a0.size:Int):=of_decide_eq_true (by first|(with_reducible assumption)|assumption)
        have hx8:=bt_at a0 x5_1
        replace p8:=eq_true p8
        replace q8:=eq_true q8
        go_wp2
        go_roundg k1
        case measure=>have:=HK1.out;omega
        case rel=>exact⟨(wrap64 (x5_1+1)),(by first|rfl|(simp;done)|(simp [*];done)|(simp;unfold wrap64;omega)),H',⟨by have:=HK1.out;omega⟩,by repeat(first|exact Drawn0.refl _|apply Drawn0.step)⟩
     ·rw [if_neg c5]at H
      exact absurd H (by simp)
    ·rw [if_neg c4]at H
     have c4b0:decide (x5_1<(a0.size:Int))=false:=decide_eq_false c4
     clear c4
     obtain rfl:=Option.some.inj H
     go_wp2
     go_ret
     exact⟨by first|rfl|(simp;done)|(simp [*];done),by repeat(first|exact Drawn0.refl _|apply Drawn0.step)⟩



/-! ### impl_isError: function 97 -/

/-- The error texts. -/
def errL:List ByteArray:= [⟨#[35,78,85,76,76,33]⟩,⟨#[35,68,73,86,47,48,33]⟩,⟨#[35,86,65,76,85,69,33]⟩,⟨#[35,82,69,70,33]⟩,⟨#[35,78,65,77,69,63]⟩,⟨#[35,78,85,77,33]⟩,⟨#[35,78,47,65]⟩,⟨#[35,83,80,73,76,76,33]⟩,⟨#[35,67,89,67,76,69,33]⟩]

def errT (i:Nat):ByteArray:=rdOf ByteArray.empty errL i

def TabE (w:World):Prop:=∀ i:Nat,i<9→w.cell? ⟨0,i,none⟩=some (.string (errT i))

theorem TabE.below {w w':World} (h:TabE w) (hb:Below w.heap.size w w'):TabE w':=fun m h1=>z9q hb (h m h1)

def TabP (w : World) : Prop := Lib.TabIs Tryz.prog w "internal/strconv.uint64pow10" .u64 Lib.pow10Tab

theorem TabP.below {w w':World} (h:TabP w) (hb:Below w.heap.size w w'):TabP w':=by
 unfold TabP Lib.TabIs World.var? at *
 cases hg : Tryz.prog.globalNamed "internal/strconv.uint64pow10" with
 |none=>simp [hg]at h
 |some g=>
  simp only [hg,Option.bind_some]at h ⊢
  have hlt:g<w.heap.size:=by
   rcases Nat.lt_or_ge g w.heap.size with h'|h'
   ·exact h'
   ·rw [Array.getElem?_eq_none h']at h;simp at h
  rw [hb.block g hlt]
  exact h

def SentIs (w:World) (name:String):Prop:=∃ tp p,w.var? Tryz.prog name=some #[.iface tp p]

theorem SentIs.below {w w':World} {name:String} (h:SentIs w name) (hb:Below w.heap.size w w'):SentIs w' name:=by
 obtain⟨tp,p,h⟩:=h
 refine⟨tp,p,?_⟩
 unfold World.var? at *
 cases hg:Tryz.prog.globalNamed name with
 |none=>simp [hg]at h
 |some g=>
  simp only [hg,Option.bind_some]at h ⊢
  have hlt:g<w.heap.size:=by
   rcases Nat.lt_or_ge g w.heap.size with h'|h'
   ·exact h'
   ·rw [Array.getElem?_eq_none h']at h;simp at h
  rw [hb.block g hlt]
  exact h

def TabS (w : World) : Prop := SentIs w "strconv.ErrSyntax" ∧ SentIs w "strconv.ErrRange"

theorem TabS.below {w w':World} (h:TabS w) (hb:Below w.heap.size w w'):TabS w':=⟨h.1.below hb,h.2.below hb⟩

def Tab (w:World):Prop:=TabE w∧TabP w∧TabS w

theorem Tab.below {w w':World} (h:Tab w) (hb:Below w.heap.size w w'):Tab w':=⟨TabE.below h.1 hb,TabP.below h.2.1 hb,TabS.below h.2.2 hb⟩

theorem Tab.toE {w:World} (h:Tab w):TabE w:=h.1

theorem Tab.toP {w:World} (h:Tab w):TabP w:=h.2.1

theorem Tab.toS {w:World} (h:Tab w):TabS w:=h.2.2

/-- From the i-th error text on, is one the text? -/
def errFrom (s:ByteArray) (i:Nat):Bool:=(errL.drop i).any fun e=>e.toList==s.toList

theorem errFrom_step (s:ByteArray) (i:Nat) (h:i<9):errFrom s i=((errT i).toList==s.toList || errFrom s (i+1)):=by
 unfold errFrom
 rw [List.drop_eq_getElem_cons (show i<errL.length from h),List.any_cons]
 have:errT i=errL[i]'h:=by
  unfold errT rdOf;rw [Int.toNat_natCast]
  rw [List.getD_eq_getElem?_getD,List.getElem?_eq_getElem (show i<errL.length from h)];rfl
 rw [this];rfl

def errCells:Array Value:=#[.string (errT 0),.string (errT 1),.string (errT 2),.string (errT 3),.string (errT 4),.string (errT 5),.string (errT 6),.string (errT 7),.string (errT 8)]

theorem errIndex (j:Nat) (h:j<9) (w:World):(Instr.index 144 (.agg #[.string (errT 0),.string (errT 1),.string (errT 2),.string (errT 3),.string (errT 4),.string (errT 5),.string (errT 6),.string (errT 7),.string (errT 8)]) (.int .i64 (j:Int))).run Tryz.prog w= .ok (.string (errT j)) w:=by
 rcases (by omega:j=0∨j=1∨j=2∨j=3∨j=4∨j=5∨j=6∨j=7∨j=8)with rfl|rfl|rfl|rfl|rfl|rfl|rfl|rfl|rfl<;>
  simp [Instr.index,run_underlying Tryz.underlying144,asIntOf,go_sem]

set_option maxHeartbeats 4000000 in
theorem isError_calls (s:ByteArray) (w:World) (hT:Tab w):
  Calls Tryz.prog 97 #[.string s] w fun e w'=>e= .returned (.bool (errFrom s 0))∧Drawn0 w w':=by
 have c0:=hT.toE 0 (by omega)
 have c1:=hT.toE 1 (by omega)
 have c2:=hT.toE 2 (by omega)
 have c3:=hT.toE 3 (by omega)
 have c4:=hT.toE 4 (by omega)
 have c5:=hT.toE 5 (by omega)
 have c6:=hT.toE 6 (by omega)
 have c7:=hT.toE 7 (by omega)
 have c8:=hT.toE 8 (by omega)
 clear hT
 go_enter Tryz.func97,Tryz.ntmps97
 go_wp2_with fail
 go_loopw [6] (fun i w'=>∃ j:Nat,j≤9∧i= .int .i64 j∧errFrom s j=errFrom s 0∧w'=w) (fun i _=>9-(intOf i).toNat)
 case atStart=>exact⟨0,by omega,rfl,rfl,rfl⟩
 case round=>
  obtain⟨j,hj,rfl,he,rfl⟩:=hrel
  have HE:=Lib.hid he;clear he
  by_cases hlt:j<9
  ·have ix:=errIndex j hlt
   by_cases hs:(errT j).toList=s.toList
   ·have e1:errFrom s j=true:=by rw [errFrom_step s j hlt,hs];simp
    have E1:=Lib.hid e1;clear e1
    go_wp2_with fail
    go_ret
    rw [←HE.out,E1.out];exact⟨rfl,Drawn0.refl _⟩
   ·have e1:errFrom s j=errFrom s (j+1):=by
     rw [errFrom_step s j hlt,show((errT j).toList==s.toList)=false from by simpa using hs];rfl
    have E1:=Lib.hid e1;clear e1
    have hb:((errT j).toList==s.toList)=false:=by simpa using hs
    go_wp2_with fail
    go_roundw
    case rel=>exact⟨j+1,by omega,by go_num,by rw [←E1.out];exact HE.out,by first|rfl|trivial⟩
    case measure=>simp [intOf];omega
  ·go_wp2_with fail
   go_ret
   obtain rfl:j=9:=by omega
   rw [←HE.out];exact⟨rfl,Drawn0.refl _⟩

def impl_isError.f (a0:ByteArray):Option Bool:=some (errFrom a0 0)

theorem impl_isError.calls (a0:ByteArray) (r:Bool) (w:World) (hT:Tab w) (h:impl_isError.f a0=some r):
  Calls Tryz.prog 97 #[.string a0] w fun e w'=>e= .returned (.bool r)∧Drawn0 w w':=by
 obtain rfl:=Option.some.inj h
 exact isError_calls a0 w hT



/-! ### impl_isLetter: function 104 -/

def impl_isLetter.f (a0:Int):Option (Bool):=if a0≥97 then(if a0≤122 then(some true)else(if a0≥65 then(some (decide (a0≤90)))else(some false)))else(if a0≥65 then(some (decide (a0≤90)))else(some false))

set_option maxHeartbeats 8000000 in
set_option maxRecDepth 100000 in
theorem impl_isLetter.calls (a0:Int) (r:Bool) (w:World) (h:impl_isLetter.f a0=some r):
  Calls Tryz.prog 104 #[.int .u8 a0] w fun e w'=>e= .returned (.bool r)∧Drawn0 w w':=by
 have H:(if a0≥97 then(if a0≤122 then(some true)else(if a0≥65 then(some (decide (a0≤90)))else(some false)))else(if a0≥65 then(some (decide (a0≤90)))else(some false)))=some r:=h
 clear h
 by_cases c2:a0≥97
 ·rw [if_pos c2]at H
  have c2b0:decide (97≤a0)=true:=decide_eq_true c2
  clear c2
  by_cases c3:a0≤122
  ·rw [if_pos c3]at H
   have c3b0:decide (a0≤122)=true:=decide_eq_true c3
   clear c3
   obtain rfl:=Option.some.inj H
   go_enter Tryz.func104,Tryz.ntmps104
   go_wp2
   go_ret
   exact⟨by first|rfl|(simp;done)|(simp [*];done),by repeat(first|exact Drawn0.refl _|apply Drawn0.step)⟩
  ·rw [if_neg c3]at H
   have c3b0:decide (a0≤122)=false:=decide_eq_false c3
   clear c3
   by_cases c4:a0≥65
   ·rw [if_pos c4]at H
    have c4b0:decide (65≤a0)=true:=decide_eq_true c4
    clear c4
    obtain rfl:=Option.some.inj H
    go_enter Tryz.func104,Tryz.ntmps104
    go_wp2
    go_ret
    exact⟨by first|rfl|(simp;done)|(simp [*];done),by repeat(first|exact Drawn0.refl _|apply Drawn0.step)⟩
   ·rw [if_neg c4]at H
    have c4b0:decide (65≤a0)=false:=decide_eq_false c4
    clear c4
    obtain rfl:=Option.some.inj H
    go_enter Tryz.func104,Tryz.ntmps104
    go_wp2
    go_ret
    exact⟨by first|rfl|(simp;done)|(simp [*];done),by repeat(first|exact Drawn0.refl _|apply Drawn0.step)⟩
 ·rw [if_neg c2]at H
  have c2b0:decide (97≤a0)=false:=decide_eq_false c2
  clear c2
  by_cases c5:a0≥65
  ·rw [if_pos c5]at H
   have c5b0:decide (65≤a0)=true:=decide_eq_true c5
   clear c5
   obtain rfl:=Option.some.inj H
   go_enter Tryz.func104,Tryz.ntmps104
   go_wp2
   go_ret
   exact⟨by first|rfl|(simp;done)|(simp [*];done),by repeat(first|exact Drawn0.refl _|apply Drawn0.step)⟩
  ·rw [if_neg c5]at H
   have c5b0:decide (65≤a0)=false:=decide_eq_false c5
   clear c5
   obtain rfl:=Option.some.inj H
   go_enter Tryz.func104,Tryz.ntmps104
   go_wp2
   go_ret
   exact⟨by first|rfl|(simp;done)|(simp [*];done),by repeat(first|exact Drawn0.refl _|apply Drawn0.step)⟩



/-! ### impl_isDigit: function 105 -/

def impl_isDigit.f (a0:Int):Option (Bool):=if a0≥48 then(some (decide (a0≤57)))else(some false)

set_option maxHeartbeats 8000000 in
set_option maxRecDepth 100000 in
theorem impl_isDigit.calls (a0:Int) (r:Bool) (w:World) (h:impl_isDigit.f a0=some r):
  Calls Tryz.prog 105 #[.int .u8 a0] w fun e w'=>e= .returned (.bool r)∧Drawn0 w w':=by
 have H:(if a0≥48 then(some (decide (a0≤57)))else(some false))=some r:=h
 clear h
 by_cases c2:a0≥48
 ·rw [if_pos c2]at H
  have c2b0:decide (48≤a0)=true:=decide_eq_true c2
  clear c2
  obtain rfl:=Option.some.inj H
  go_enter Tryz.func105,Tryz.ntmps105
  go_wp2
  go_ret
  exact⟨by first|rfl|(simp;done)|(simp [*];done),by repeat(first|exact Drawn0.refl _|apply Drawn0.step)⟩
 ·rw [if_neg c2]at H
  have c2b0:decide (48≤a0)=false:=decide_eq_false c2
  clear c2
  obtain rfl:=Option.some.inj H
  go_enter Tryz.func105,Tryz.ntmps105
  go_wp2
  go_ret
  exact⟨by first|rfl|(simp;done)|(simp [*];done),by repeat(first|exact Drawn0.refl _|apply Drawn0.step)⟩



/-! ### impl_digitsFrom: function 120 -/

def impl_digitsFrom.l0:Nat→ByteArray→Int→Option (Int)
 |0,_,_=>none
 |k+1,x0,x1=>if x1<(x0.size:Int)then(if 0≤x1 then(if(bt x0 x1)≥48 then(if(bt x0 x1)≤57 then(impl_digitsFrom.l0 k x0 (wrap64 (x1+1)))else(some x1))else(some x1))else(none))else(some x1)

def impl_digitsFrom.f (k:Nat) (a0:ByteArray) (a1:Int):Option (Int):=impl_digitsFrom.l0 k a0 a1

set_option maxHeartbeats 8000000 in
set_option maxRecDepth 100000 in
theorem impl_digitsFrom.calls (k:Nat) (a0:ByteArray) (a1:Int) (r:Int) (w:World) (h:impl_digitsFrom.f k a0 a1=some r):
  Calls Tryz.prog 120 #[.string a0,.int .i64 a1] w fun e w'=>e= .returned (.int .i64 r)∧Drawn0 w w':=by
 have H:(impl_digitsFrom.l0 k a0 a1)=some r:=h
 clear h
 have H':=Aside0.mk H
 clear H
 go_enter Tryz.func120,Tryz.ntmps120
 go_wp2
 go_loopg [1] k (fun kq v1 w'=>∃ (x1_1:Int),v1= .int .i64 x1_1∧Aside0 (impl_digitsFrom.l0 kq a0 x1_1=some r)∧Aside0 (kq≤k)∧Drawn0 w w')
 case atStart=>exact⟨(a1),(by first|rfl|(simp;done)|(simp [*];done)|(simp;unfold wrap64;omega)),H',⟨Nat.le_refl _⟩,by repeat(first|exact Drawn0.refl _|apply Drawn0.step)⟩
 case round=>
  clear H'
  try clear c1
  try clear p2
  obtain⟨x1_1,rfl,HA,HK1,⟨m1,rfl⟩⟩:=hrel
  cases gk with
  |zero=>exact absurd HA.out (by simp [impl_digitsFrom.l0])
  |succ k1=>
   have H:=HA.out
   clear HA
   simp only [impl_digitsFrom.l0]at H
   by_cases c3:x1_1<(a0.size:Int)
   ·rw [if_pos c3]at H
    have c3b0:decide (x1_1<(a0.size:Int))=true:=decide_eq_true c3
    clear c3
    by_cases c4:0≤x1_1
    ·rw [if_pos c4]at H
     have c4b0:decide (0≤x1_1)=true:=decide_eq_true c4
     clear c4
     by_cases c6:(bt a0 x1_1)≥48
     ·rw [if_pos c6]at H
      have c6b0:decide (48≤(bt a0 x1_1))=true:=decide_eq_true c6
      clear c6
      by_cases c8:(bt a0 x1_1)≤57
      ·rw [if_pos c8]at H
       have c8b0:decide ((bt a0 x1_1)≤57)=true:=decide_eq_true c8
       clear c8
       have H':=Aside0.mk H
       clear H
       have p5:0≤(x1_1:Int):=of_decide_eq_true (by first|(with_reducible assumption)|assumption)
       have q5:x1_1<(a0.size:Int):=of_decide_eq_true (by first|(with_reducible assumption)|assumption)
       have hx5:=bt_at a0 x1_1
       replace p5:=eq_true p5
       replace q5:=eq_true q5
       have p7:0≤(x1_1:Int):=of_decide_eq_true (by first|(with_reducible assumption)|assumption)
       have q7:x1_1<(a0.size:Int):=of_decide_eq_true (by first|(with_reducible assumption)|assumption)
       have hx7:=bt_at a0 x1_1
       replace p7:=eq_true p7
       replace q7:=eq_true q7
       go_wp2
       go_roundg k1
       case measure=>have:=HK1.out;omega
       case rel=>exact⟨(wrap64 (x1_1+1)),(by first|rfl|(simp;done)|(simp [*];done)|(simp;unfold wrap64;omega)),H',⟨by have:=HK1.out;omega⟩,by repeat(first|exact Drawn0.refl _|apply Drawn0.step)⟩
      ·rw [if_neg c8]at H
       have c8b0:decide ((bt a0 x1_1)≤57)=false:=decide_eq_false c8
       clear c8
       obtain rfl:=Option.some.inj H
       have p5:0≤(x1_1:Int):=of_decide_eq_true (by first|(with_reducible assumption)|assumption)
       have q5:x1_1<(a0.size:Int):=of_decide_eq_true (by first|(with_reducible assumption)|assumption)
       have hx5:=bt_at a0 x1_1
       replace p5:=eq_true p5
       replace q5:=eq_true q5
       have p7:0≤(x1_1:Int):=of_decide_eq_true (by first|(with_reducible assumption)|assumption)
       have q7:x1_1<(a0.size:Int):=of_decide_eq_true (by first|(with_reducible assumption)|assumption)
       have hx7:=bt_at a0 x1_1
       replace p7:=eq_true p7
       replace q7:=eq_true q7
       go_wp2
       go_ret
       exact⟨by first|rfl|(simp;done)|(simp [*];done),by repeat(first|exact Drawn0.refl _|apply Drawn0.step)⟩
     ·rw [if_neg c6]at H
      have c6b0:decide (48≤(bt a0 x1_1))=false:=decide_eq_false c6
      clear c6
      obtain rfl:=Option.some.inj H
      have p5:0≤(x1_1:Int):=of_decide_eq_true (by first|(with_reducible assumption)|assumption)
      have q5:x1_1<(a0.size:Int):=of_decide_eq_true (by first|(with_reducible assumption)|assumption)
      have hx5:=bt_at a0 x1_1
      replace p5:=eq_true p5
      replace q5:=eq_true q5
      go_wp2
      go_ret
      exact⟨by first|rfl|(simp;done)|(simp [*];done),by repeat(first|exact Drawn0.refl _|apply Drawn0.step)⟩
    ·rw [if_neg c4]at H
     exact absurd H (by simp)
   ·rw [if_neg c3]at H
    have c3b0:decide (x1_1<(a0.size:Int))=false:=decide_eq_false c3
    clear c3
    obtain rfl:=Option.some.inj H
    go_wp2
    go_ret
    exact⟨by first|rfl|(simp;done)|(simp [*];done),by repeat(first|exact Drawn0.refl _|apply Drawn0.step)⟩



/-! ### impl_likeBy: function 106 -/

def impl_likeBy.j0:Nat→ByteArray→Int→Bool→Bool→Option (Bool)
 |0,_,_,_,_=>none
 |k+1,x0,x3,x4,x14=>if x14=true then((impl_digitsFrom.f k x0 1).bind fun t401=>(if t401<(x0.size:Int)then(if 0≤t401 then(if(bt x0 t401)=67 then((impl_digitsFrom.f k x0 (wrap64 (t401+1))).bind fun t402=>(some (t402==(x0.size:Int))))else(some (t401==(x0.size:Int))))else(none))else(some (t401==(x0.size:Int)))))else(if x3<(x0.size:Int)then(if 0≤x3 then(if(bt x0 x3)=67 then((impl_digitsFrom.f k x0 (wrap64 (x3+1))).bind fun t403=>(some (t403==(x0.size:Int))))else(if x4=true then(some (x3==(x0.size:Int)))else(some false)))else(none))else(if x4=true then(some (x3==(x0.size:Int)))else(some false)))

def impl_likeBy.f (k:Nat) (a0:ByteArray):Option (Bool):=if 0<(a0.size:Int)then(impl_likeBy.j0 k a0 0 false ((bt a0 0)==82))else(impl_likeBy.j0 k a0 0 false false)

set_option maxHeartbeats 8000000 in
set_option maxRecDepth 100000 in
theorem impl_likeBy.calls (k:Nat) (a0:ByteArray) (r:Bool) (w:World) (h:impl_likeBy.f k a0=some r):
  Calls Tryz.prog 106 #[.string a0] w fun e w'=>e= .returned (.bool r)∧Drawn0 w w':=by
 rw [impl_likeBy.f]at h
 by_cases h0:0<(a0.size:Int)
 ·have b0:decide (0<(a0.size:Int))=true:=decide_eq_true h0
  have b1:decide (0<a0.size)=true:=decide_eq_true (by omega)
  have q0:(0<(a0.size:Int))=True:=eq_true h0
  have q1:(0<a0.size)=True:=eq_true (by omega)
  have hx:∀ h:0<a0.size,((a0[0]'h).toNat:Int)=bt a0 0:=bt_at a0 0
  rw [if_pos h0]at h
  cases k with
  |zero=>exact absurd h (by simp [impl_likeBy.j0])
  |succ k=>
  by_cases e0:bt a0 0=82
  ·have e1:(bt a0 0==82)=true:=beq_iff_eq.mpr e0
   rw [e1,impl_likeBy.j0,if_pos rfl]at h
   obtain⟨i,hi,H⟩:=Option.bind_eq_some_iff.mp h
   have HI:=Lib.hid hi;clear h hi e0 h0
   by_cases c1:i<(a0.size:Int)
   ·rw [if_pos c1]at H
    by_cases c2:0≤i
    ·rw [if_pos c2]at H
     have g1:decide (i<(a0.size:Int))=true:=decide_eq_true c1
     have g2:(0≤i)=True:=eq_true c2
     have g3:(i<(a0.size:Int))=True:=eq_true c1
     have g4:(i.toNat<a0.size)=True:=eq_true (by omega)
     have hy:∀ h:i.toNat<a0.size,((a0[i.toNat]'h).toNat:Int)=bt a0 i:=bt_at a0 i
     by_cases c3:bt a0 i=67
     ·rw [if_pos c3]at H
      have g5:(bt a0 i==67)=true:=beq_iff_eq.mpr c3
      obtain⟨j,hj,H⟩:=Option.bind_eq_some_iff.mp H
      obtain rfl:=Option.some.inj H
      have HJ:=Lib.hid hj;clear hj c1 c2 c3 H
      go_enter Tryz.func106,Tryz.ntmps106
      go_wp2_with fail
      refine(impl_digitsFrom.calls _ _ _ _ _ HI.out).mono ?_;rintro e w' ⟨rfl,⟨nd,rfl⟩⟩
      go_wp2_with fail
      (try simp only [i64_w])
      refine(impl_digitsFrom.calls _ _ _ _ _ HJ.out).mono ?_;rintro e w' ⟨rfl,⟨nd,rfl⟩⟩
      go_wp2_with fail
      go_ret
      exact⟨by first|rfl|(simp;done),by first|exact Drawn0.refl _|exact⟨_,rfl⟩⟩
     ·rw [if_neg c3]at H
      have g5:(bt a0 i==67)=false:=beq_eq_false_iff_ne.mpr c3
      obtain rfl:=Option.some.inj H
      clear c1 c2 c3 H
      go_enter Tryz.func106,Tryz.ntmps106
      go_wp2_with fail
      refine(impl_digitsFrom.calls _ _ _ _ _ HI.out).mono ?_;rintro e w' ⟨rfl,⟨nd,rfl⟩⟩
      go_wp2_with fail
      go_ret
      exact⟨by first|rfl|(simp;done),by first|exact Drawn0.refl _|exact⟨_,rfl⟩⟩
    ·rw [if_neg c2]at H;cases H
   ·rw [if_neg c1]at H
    have g1:decide (i<(a0.size:Int))=false:=decide_eq_false c1
    obtain rfl:=Option.some.inj H
    clear c1 H
    go_enter Tryz.func106,Tryz.ntmps106
    go_wp2_with fail
    refine(impl_digitsFrom.calls _ _ _ _ _ HI.out).mono ?_;rintro e w' ⟨rfl,⟨nd,rfl⟩⟩
    go_wp2_with fail
    go_ret
    exact⟨by first|rfl|(simp;done),by first|exact Drawn0.refl _|exact⟨_,rfl⟩⟩
  ·have e1:(bt a0 0==82)=false:=beq_eq_false_iff_ne.mpr e0
   rw [e1,impl_likeBy.j0,if_neg (by decide),if_pos h0,if_pos (by decide)]at h
   clear e0 h0
   by_cases c3:bt a0 0=67
   ·rw [if_pos c3]at h
    have g5:(bt a0 0==67)=true:=beq_iff_eq.mpr c3
    obtain⟨j,hj,H⟩:=Option.bind_eq_some_iff.mp h
    obtain rfl:=Option.some.inj H
    rw [show wrap64 (0+1)=1 from by unfold wrap64;omega]at hj
    have HJ:=Lib.hid hj;clear hj h c3 H
    go_enter Tryz.func106,Tryz.ntmps106
    go_wp2_with fail
    refine(impl_digitsFrom.calls _ _ _ _ _ HJ.out).mono ?_;rintro e w' ⟨rfl,⟨nd,rfl⟩⟩
    go_wp2_with fail
    go_ret
    exact⟨by first|rfl|(simp;done),by first|exact Drawn0.refl _|exact⟨_,rfl⟩⟩
   ·rw [if_neg c3,if_neg (by decide)]at h
    have g5:(bt a0 0==67)=false:=beq_eq_false_iff_ne.mpr c3
    obtain rfl:=Option.some.inj h
    clear c3 h
    go_enter Tryz.func106,Tryz.ntmps106
    go_wp2_with fail
    go_wp2_with fail
    go_ret
    exact⟨by first|rfl|(simp;done),by first|exact Drawn0.refl _|exact⟨_,rfl⟩⟩
 ·have b0:decide (0<(a0.size:Int))=false:=decide_eq_false h0
  have b1:decide (0<a0.size)=false:=decide_eq_false (by omega)
  rw [if_neg h0]at h
  cases k with
  |zero=>exact absurd h (by simp [impl_likeBy.j0])
  |succ k=>
  rw [impl_likeBy.j0,if_neg (by decide),if_neg h0,if_neg (by decide)]at h
  obtain rfl:=Option.some.inj h
  have hz:a0.size=0:=by omega
  clear h h0
  go_enter Tryz.func106,Tryz.ntmps106
  go_wp2_with fail
  go_wp2_with fail
  go_ret
  exact⟨by first|rfl|(simp;done),by first|exact Drawn0.refl _|exact⟨_,rfl⟩⟩

/-! ### -/



/-! ### strconv_Itoa: function 101 -/

def shl_laysM171_ren:Go.Shelf.Ren:=⟨fun|171=>101|243=>110|246=>129|283=>144|284=>145|285=>146|286=>147|129=>161|317=>160|318=>162|319=>163|320=>164|337=>167|338=>168|n=>n,fun|3=>3|9=>9|2=>2|4=>4|171=>173|0=>0|53=>166|37=>116|5=>5|173=>176|212=>191|51=>179|20=>20|213=>192|46=>169|232=>197|233=>198|n=>n,fun|17=>3|18=>4|19=>5|n=>n⟩

theorem shl_laysM171:Go.Proofs.LaysM.n171 Tryz.prog shl_laysM171_ren:= {
 mixed:=by kernel_rfl
 f129:=Tryz.func161.trans (congrArg some (by kernel_rfl))
 f171:=Tryz.func101.trans (congrArg some (by kernel_rfl))
 f243:=Tryz.func110.trans (congrArg some (by kernel_rfl))
 f246:=Tryz.func129.trans (congrArg some (by kernel_rfl))
 f283:=Tryz.func144.trans (congrArg some (by kernel_rfl))
 f284:=Tryz.func145.trans (congrArg some (by kernel_rfl))
 f285:=Tryz.func146.trans (congrArg some (by kernel_rfl))
 f286:=Tryz.func147.trans (congrArg some (by kernel_rfl))
 f317:=Tryz.func160.trans (congrArg some (by kernel_rfl))
 f318:=Tryz.func162.trans (congrArg some (by kernel_rfl))
 f319:=Tryz.func163.trans (congrArg some (by kernel_rfl))
 f320:=Tryz.func164.trans (congrArg some (by kernel_rfl))
 f337:=Tryz.func167.trans (congrArg some (by kernel_rfl))
 f338:=Tryz.func168.trans (congrArg some (by kernel_rfl))
 t0:=Tryz.underlying0
 a0:=Tryz.isAgg0
 z0:=Tryz.sizeOf0
 v0:=Tryz.zeroValue0
 t2:=Tryz.underlying2
 a2:=Tryz.isAgg2
 z2:=Tryz.sizeOf2
 v2:=Tryz.zeroValue2
 t3:=Tryz.underlying3
 a3:=Tryz.isAgg3
 z3:=Tryz.sizeOf3
 v3:=Tryz.zeroValue3
 t4:=Tryz.underlying4
 a4:=Tryz.isAgg4
 z4:=Tryz.sizeOf4
 v4:=Tryz.zeroValue4
 t5:=Tryz.underlying5
 a5:=Tryz.isAgg5
 z5:=Tryz.sizeOf5
 v5:=Tryz.zeroValue5
 t9:=Tryz.underlying9
 a9:=Tryz.isAgg9
 z9:=Tryz.sizeOf9
 v9:=Tryz.zeroValue9
 t20:=Tryz.underlying20
 a20:=Tryz.isAgg20
 z20:=Tryz.sizeOf20
 v20:=Tryz.zeroValue20
 t37:=Tryz.underlying116
 a37:=Tryz.isAgg116
 z37:=Tryz.sizeOf116
 v37:=Tryz.zeroValue116
 t46:=Tryz.underlying169
 a46:=Tryz.isAgg169
 z46:=Tryz.sizeOf169
 v46:=Tryz.zeroValue169
 t51:=Tryz.underlying179
 a51:=Tryz.isAgg179
 z51:=Tryz.sizeOf179
 v51:=Tryz.zeroValue179
 t53:=Tryz.underlying166
 a53:=Tryz.isAgg166
 z53:=Tryz.sizeOf166
 v53:=Tryz.zeroValue166
 t171:=Tryz.underlying173
 a171:=Tryz.isAgg173
 z171:=Tryz.sizeOf173
 v171:=Tryz.zeroValue173
 t173:=Tryz.underlying176
 a173:=Tryz.isAgg176
 z173:=Tryz.sizeOf176
 v173:=Tryz.zeroValue176
 t212:=Tryz.underlying191
 a212:=Tryz.isAgg191
 z212:=Tryz.sizeOf191
 v212:=Tryz.zeroValue191
 t213:=Tryz.underlying192
 a213:=Tryz.isAgg192
 z213:=Tryz.sizeOf192
 t232:=Tryz.underlying197
 a232:=Tryz.isAgg197
 z232:=Tryz.sizeOf197
 v232:=Tryz.zeroValue197
 t233:=Tryz.underlying198
 a233:=Tryz.isAgg198
 z233:=Tryz.sizeOf198
 v233:=Tryz.zeroValue198
 g17:=by kernel_rfl
 g18:=by kernel_rfl
 g19:=by kernel_rfl
 i0:=by kernel_rfl
 i2:=by kernel_rfl
 i3:=by kernel_rfl
 i4:=by kernel_rfl
 i5:=by kernel_rfl
 i9:=by kernel_rfl
 i20:=by kernel_rfl
 i37:=by kernel_rfl
 i46:=by kernel_rfl
 i51:=by kernel_rfl
 i53:=by kernel_rfl
 i171:=by kernel_rfl
 i173:=by kernel_rfl
 i212:=by kernel_rfl
 i232:=by kernel_rfl
 i233:=by kernel_rfl
 m17:=by kernel_rfl
 m18:=by kernel_rfl
 m19:=by kernel_rfl}

open Go.RowKit Go.Sort Go.Lib in

theorem shl_strconv_Itoa (n : Int) (h0 : -9223372036854775808 ≤ n) (h1 : n ≤ 9223372036854775807) (w : World) (htab : Lib.TabIs Tryz.prog w "internal/strconv.uint64pow10" .u64 Lib.pow10Tab) :
  Calls Tryz.prog 101 #[.int .i64 n] w fun e w'=>e= .returned (.string ⟨(Lib.itoa n).toArray⟩)∧∃ k os,w'=grow (w.drewN k) os:=Any.strconv_Itoa shl_laysM171 n h0 h1 w htab


theorem itoa_below (w:World) (k:Nat) (os:Array Obj):Below w.heap.size w (Go.Sort.grow (w.drewN k) os):=
 ⟨rfl,rfl,rfl,by simp [Go.Sort.grow],fun i hi=>by show(w.heap ++ os)[i]? =_;rw [Array.getElem?_append_left hi]⟩

def strconv_Itoa.f (a0:Int):Option ByteArray:=if -9223372036854775808≤a0∧a0≤9223372036854775807 then some ⟨(Lib.itoa a0).toArray⟩else none

theorem strconv_Itoa.calls (a0:Int) (r:ByteArray) (w:World) (hT:Tab w) (h:strconv_Itoa.f a0=some r):
  Calls Tryz.prog 101 #[.int .i64 a0] w fun e w'=>e= .returned (.string r)∧Below w.heap.size w w':=by
 unfold strconv_Itoa.f at h
 by_cases hs: -9223372036854775808≤a0∧a0≤9223372036854775807
 ·rw [if_pos hs]at h
  obtain rfl:=Option.some.inj h
  exact(shl_strconv_Itoa a0 hs.1 hs.2 w hT.toP).mono fun e w' ⟨he,k,os,hw⟩=>⟨he,hw ▸ itoa_below w k os⟩
 ·rw [if_neg hs]at h;cases h



/-! ### strconv_Atoi: function 100 -/

def shl_laysC172_ren:Go.Shelf.Ren:=⟨fun|172=>100|244=>108|245=>109|247=>124|279=>125|280=>126|281=>127|282=>128|287=>141|316=>142|171=>101|205=>143|321=>158|322=>159|243=>110|246=>129|283=>144|284=>145|285=>146|286=>147|129=>161|317=>160|318=>162|319=>163|320=>164|337=>167|338=>168|n=>n,fun|9=>9|3=>3|75=>139|76=>140|4=>4|5=>5|167=>153|37=>116|0=>0|85=>154|2=>2|168=>156|53=>166|175=>167|46=>169|210=>171|127=>186|145=>189|143=>187|21=>21|171=>173|173=>176|212=>191|51=>179|20=>20|213=>192|232=>197|233=>198|80=>201|n=>n,fun|15=>1|16=>2|17=>3|18=>4|19=>5|n=>n⟩

theorem shl_laysC172:Go.Proofs.LaysC.n172 Tryz.prog shl_laysC172_ren:= {
 mixed:=by kernel_rfl
 f129:=Tryz.func161.trans (congrArg some (by kernel_rfl))
 f171:=Tryz.func101.trans (congrArg some (by kernel_rfl))
 f172:=Tryz.func100.trans (congrArg some (by kernel_rfl))
 f205:=Tryz.func143.trans (congrArg some (by kernel_rfl))
 f243:=Tryz.func110.trans (congrArg some (by kernel_rfl))
 f244:=Tryz.func108.trans (congrArg some (by kernel_rfl))
 f245:=Tryz.func109.trans (congrArg some (by kernel_rfl))
 f246:=Tryz.func129.trans (congrArg some (by kernel_rfl))
 f247:=Tryz.func124.trans (congrArg some (by kernel_rfl))
 f279:=Tryz.func125.trans (congrArg some (by kernel_rfl))
 f280:=Tryz.func126.trans (congrArg some (by kernel_rfl))
 f281:=Tryz.func127.trans (congrArg some (by kernel_rfl))
 f282:=Tryz.func128.trans (congrArg some (by kernel_rfl))
 f283:=Tryz.func144.trans (congrArg some (by kernel_rfl))
 f284:=Tryz.func145.trans (congrArg some (by kernel_rfl))
 f285:=Tryz.func146.trans (congrArg some (by kernel_rfl))
 f286:=Tryz.func147.trans (congrArg some (by kernel_rfl))
 f287:=Tryz.func141.trans (congrArg some (by kernel_rfl))
 f316:=Tryz.func142.trans (congrArg some (by kernel_rfl))
 f317:=Tryz.func160.trans (congrArg some (by kernel_rfl))
 f318:=Tryz.func162.trans (congrArg some (by kernel_rfl))
 f319:=Tryz.func163.trans (congrArg some (by kernel_rfl))
 f320:=Tryz.func164.trans (congrArg some (by kernel_rfl))
 f321:=Tryz.func158.trans (congrArg some (by kernel_rfl))
 f322:=Tryz.func159.trans (congrArg some (by kernel_rfl))
 f337:=Tryz.func167.trans (congrArg some (by kernel_rfl))
 f338:=Tryz.func168.trans (congrArg some (by kernel_rfl))
 t0:=Tryz.underlying0
 a0:=Tryz.isAgg0
 z0:=Tryz.sizeOf0
 v0:=Tryz.zeroValue0
 t2:=Tryz.underlying2
 a2:=Tryz.isAgg2
 z2:=Tryz.sizeOf2
 v2:=Tryz.zeroValue2
 t3:=Tryz.underlying3
 a3:=Tryz.isAgg3
 z3:=Tryz.sizeOf3
 v3:=Tryz.zeroValue3
 t4:=Tryz.underlying4
 a4:=Tryz.isAgg4
 z4:=Tryz.sizeOf4
 v4:=Tryz.zeroValue4
 t5:=Tryz.underlying5
 a5:=Tryz.isAgg5
 z5:=Tryz.sizeOf5
 v5:=Tryz.zeroValue5
 t9:=Tryz.underlying9
 a9:=Tryz.isAgg9
 z9:=Tryz.sizeOf9
 v9:=Tryz.zeroValue9
 t20:=Tryz.underlying20
 a20:=Tryz.isAgg20
 z20:=Tryz.sizeOf20
 v20:=Tryz.zeroValue20
 t21:=Tryz.underlying21
 a21:=Tryz.isAgg21
 z21:=Tryz.sizeOf21
 v21:=Tryz.zeroValue21
 t37:=Tryz.underlying116
 a37:=Tryz.isAgg116
 z37:=Tryz.sizeOf116
 v37:=Tryz.zeroValue116
 t46:=Tryz.underlying169
 a46:=Tryz.isAgg169
 z46:=Tryz.sizeOf169
 v46:=Tryz.zeroValue169
 t51:=Tryz.underlying179
 a51:=Tryz.isAgg179
 z51:=Tryz.sizeOf179
 v51:=Tryz.zeroValue179
 t53:=Tryz.underlying166
 a53:=Tryz.isAgg166
 z53:=Tryz.sizeOf166
 v53:=Tryz.zeroValue166
 t75:=Tryz.underlying139
 a75:=Tryz.isAgg139
 z75:=Tryz.sizeOf139
 v75:=Tryz.zeroValue139
 t76:=Tryz.underlying140
 a76:=Tryz.isAgg140
 z76:=Tryz.sizeOf140
 v76:=Tryz.zeroValue140
 t85:=Tryz.underlying154
 a85:=Tryz.isAgg154
 z85:=Tryz.sizeOf154
 v85:=Tryz.zeroValue154
 t127:=Tryz.underlying186
 a127:=Tryz.isAgg186
 z127:=Tryz.sizeOf186
 v127:=Tryz.zeroValue186
 t143:=Tryz.underlying187
 a143:=Tryz.isAgg187
 z143:=Tryz.sizeOf187
 v143:=Tryz.zeroValue187
 t145:=Tryz.underlying189
 a145:=Tryz.isAgg189
 z145:=Tryz.sizeOf189
 v145:=Tryz.zeroValue189
 t167:=Tryz.underlying153
 a167:=Tryz.isAgg153
 z167:=Tryz.sizeOf153
 v167:=Tryz.zeroValue153
 t168:=Tryz.underlying156
 a168:=Tryz.isAgg156
 z168:=Tryz.sizeOf156
 v168:=Tryz.zeroValue156
 t171:=Tryz.underlying173
 a171:=Tryz.isAgg173
 z171:=Tryz.sizeOf173
 v171:=Tryz.zeroValue173
 t173:=Tryz.underlying176
 a173:=Tryz.isAgg176
 z173:=Tryz.sizeOf176
 v173:=Tryz.zeroValue176
 t175:=Tryz.underlying167
 a175:=Tryz.isAgg167
 z175:=Tryz.sizeOf167
 v175:=Tryz.zeroValue167
 t210:=Tryz.underlying171
 a210:=Tryz.isAgg171
 z210:=Tryz.sizeOf171
 v210:=Tryz.zeroValue171
 t212:=Tryz.underlying191
 a212:=Tryz.isAgg191
 z212:=Tryz.sizeOf191
 v212:=Tryz.zeroValue191
 t213:=Tryz.underlying192
 a213:=Tryz.isAgg192
 z213:=Tryz.sizeOf192
 t232:=Tryz.underlying197
 a232:=Tryz.isAgg197
 z232:=Tryz.sizeOf197
 v232:=Tryz.zeroValue197
 t233:=Tryz.underlying198
 a233:=Tryz.isAgg198
 z233:=Tryz.sizeOf198
 v233:=Tryz.zeroValue198
 g15:=by kernel_rfl
 g16:=by kernel_rfl
 g17:=by kernel_rfl
 g18:=by kernel_rfl
 g19:=by kernel_rfl
 t80:=Tryz.underlying201
 a80:=Tryz.isAgg201
 z80:=Tryz.sizeOf201
 v80:=Tryz.zeroValue201
 i0:=by kernel_rfl
 i2:=by kernel_rfl
 i3:=by kernel_rfl
 i4:=by kernel_rfl
 i5:=by kernel_rfl
 i9:=by kernel_rfl
 i20:=by kernel_rfl
 i21:=by kernel_rfl
 i37:=by kernel_rfl
 i46:=by kernel_rfl
 i51:=by kernel_rfl
 i53:=by kernel_rfl
 i75:=by kernel_rfl
 i76:=by kernel_rfl
 i80:=by kernel_rfl
 i85:=by kernel_rfl
 i127:=by kernel_rfl
 i143:=by kernel_rfl
 i145:=by kernel_rfl
 i167:=by kernel_rfl
 i168:=by kernel_rfl
 i171:=by kernel_rfl
 i173:=by kernel_rfl
 i175:=by kernel_rfl
 i210:=by kernel_rfl
 i212:=by kernel_rfl
 i232:=by kernel_rfl
 i233:=by kernel_rfl
 m15:=by kernel_rfl
 m16:=by kernel_rfl
 m17:=by kernel_rfl
 m18:=by kernel_rfl
 m19:=by kernel_rfl
 c0:=by kernel_rfl
 c2:=by kernel_rfl
 c3:=by kernel_rfl
 c4:=by kernel_rfl
 c5:=by kernel_rfl
 c9:=by kernel_rfl
 c20:=by kernel_rfl
 c21:=by kernel_rfl
 c37:=by kernel_rfl
 c46:=by kernel_rfl
 c51:=by kernel_rfl
 c53:=by kernel_rfl
 c75:=by kernel_rfl
 c76:=by kernel_rfl
 c80:=by kernel_rfl
 c85:=by kernel_rfl
 c127:=by kernel_rfl
 c143:=by kernel_rfl
 c145:=by kernel_rfl
 c167:=by kernel_rfl
 c168:=by kernel_rfl
 c171:=by kernel_rfl
 c173:=by kernel_rfl
 c175:=by kernel_rfl
 c210:=by kernel_rfl
 c212:=by kernel_rfl
 c213:=by kernel_rfl
 c232:=by kernel_rfl
 c233:=by kernel_rfl}

open Go.RowKit Go.Sort Go.Lib in

theorem shl_strconv_Atoi_ok (s:ByteArray) (hmax:s.size≤9223372036854775806) (v:Int) (h:Lib.atoiAll s.data.toList= .ok v) (w:World):
  Calls Tryz.prog 100 #[.string s] w fun e w'=>e= .returned (.tuple #[.int .i64 v,.nilIface])∧(w'=w∨∃ t,w'=Lib.bytesWorld w 5 t):=Any.strconv_Atoi_ok shl_laysC172 s hmax v h w


open Go.RowKit Go.Sort Go.Lib in

theorem shl_strconv_Atoi_syntax_var (s : ByteArray) (hlim : s.size ≤ 281474976710656) (h : Lib.atoiAll s.data.toList = Lib.NumEnd.syntax) (tp : TypeId) (p : Value) (w : World) (hvar : w.var? Tryz.prog "strconv.ErrSyntax" = some #[.iface tp p]) :
  Calls Tryz.prog 100 #[.string s] w fun e w'=>∃ N,e= .returned (.tuple #[.int .i64 0,.iface 156 (.pointer (some ⟨N,0,none⟩))])∧w.heap.size≤N∧w'.heap[N]? =some (.cells #[.string ⟨#[65,116,111,105]⟩,.string s,.iface tp p] 171 (0,0))∧Below w.heap.size w w':=Any.strconv_Atoi_syntax_var shl_laysC172 s hlim h tp p w hvar


open Go.RowKit Go.Sort Go.Lib in

theorem shl_strconv_Atoi_range_var (s : ByteArray) (hlim : s.size ≤ 281474976710656) (h : Lib.atoiAll s.data.toList = .range) (tp : TypeId) (p : Value) (w : World) (hvar : w.var? Tryz.prog "strconv.ErrRange" = some #[.iface tp p]) :
  Calls Tryz.prog 100 #[.string s] w fun e w'=>∃ N,e= .returned (.tuple #[.int .i64 (Lib.atoiSat s.data.toList),.iface 156 (.pointer (some ⟨N,0,none⟩))])∧w.heap.size≤N∧w'.heap[N]? =some (.cells #[.string ⟨#[65,116,111,105]⟩,.string s,.iface tp p] 171 (0,0))∧Below w.heap.size w w':=Any.strconv_Atoi_range_var shl_laysC172 s hlim h tp p w hvar


theorem atoi_bytes (w:World) (s:ByteArray):Below w.heap.size w (Lib.bytesWorld w 5 s):=by
 have h1:Below w.heap.size w (w.drew.alloc (.cells (Lib.bytesCells w 5 s) 5)):=z2q (z3q (Below.refl _ _) 1) _
 refine⟨h1.os,h1.tape,h1.output,?_,fun k hk=> ?_⟩
 ·rw [Lib.bytesWorld_size];omega
 ·exact Lib.bytesWorld_at_old w 5 s k hk

/-- The error beside the number: none, or one of the library's two. -/
def ErrIs (r:Option Int) (ev:Value):Prop:=match r with
 |none=>ev= .nilIface
 |some _=>∃ N,ev= .iface 156 (.pointer (some ⟨N,0,none⟩))

def atoiV (s:ByteArray):Int×Option Int:=match Lib.atoiAll s.data.toList with
 | .ok v=>(v,none)
 |Lib.NumEnd.syntax=>(0,some 0)
 | .range=>(Lib.atoiSat s.data.toList,some 1)

def strconv_Atoi.f (a0:ByteArray):Option (Int×Option Int):=if a0.size≤281474976710656 then some (atoiV a0)else none

theorem strconv_Atoi.calls (a0:ByteArray) (r1:Int) (r2:Option Int) (w:World) (hT:Tab w) (h:strconv_Atoi.f a0=some (r1,r2)):
  Calls Tryz.prog 100 #[.string a0] w fun e w'=>∃ ev,e= .returned (.tuple #[.int .i64 r1,ev])∧Below w.heap.size w w'∧Aside0 (ErrIs r2 ev):=by
 unfold strconv_Atoi.f at h
 by_cases hs:a0.size≤281474976710656
 ·rw [if_pos hs]at h
  replace h:=Option.some.inj h
  unfold atoiV at h
  cases ha:Lib.atoiAll a0.data.toList with
  |ok v=>
   rw [ha]at h;injection h with h1 h2;subst h1;subst h2
   refine(shl_strconv_Atoi_ok a0 (by omega) v ha w).mono fun e w' ⟨he,hw⟩=>⟨_,he,?_,⟨rfl⟩⟩
   rcases hw with rfl|⟨t,rfl⟩
   ·exact Below.refl _ _
   ·exact atoi_bytes w t
  |range=>
   rw [ha]at h;injection h with h1 h2;subst h1;subst h2
   obtain⟨tp,p,hv⟩:=hT.toS.2
   exact(shl_strconv_Atoi_range_var a0 hs ha tp p w hv).mono fun e w' ⟨N,he,_,_,hb⟩=>⟨_,he,hb,⟨N,rfl⟩⟩
  |_=>
   rw [ha]at h;injection h with h1 h2;subst h1;subst h2
   obtain⟨tp,p,hv⟩:=hT.toS.1
   exact(shl_strconv_Atoi_syntax_var a0 hs ha tp p w hv).mono fun e w' ⟨N,he,_,_,hb⟩=>⟨_,he,hb,⟨N,rfl⟩⟩
 ·rw [if_neg hs]at h;cases h



/-! ### strings_HasPrefix: function 121 -/

def shl_lays99_ren:Go.Shelf.Ren:=⟨fun|99=>121|206=>139|n=>n,fun|9=>9|4=>4|3=>3|n=>n,fun|n=>n⟩

theorem shl_lays99:Go.Proofs.Lays.n99 Tryz.prog shl_lays99_ren:= {
 mixed:=by kernel_rfl
 f99:=Tryz.func121.trans (congrArg some (by kernel_rfl))
 f206:=Tryz.func139.trans (congrArg some (by kernel_rfl))
 t3:=Tryz.underlying3
 a3:=Tryz.isAgg3
 z3:=Tryz.sizeOf3
 v3:=Tryz.zeroValue3
 t4:=Tryz.underlying4
 a4:=Tryz.isAgg4
 z4:=Tryz.sizeOf4
 v4:=Tryz.zeroValue4
 t9:=Tryz.underlying9
 a9:=Tryz.isAgg9
 z9:=Tryz.sizeOf9
 v9:=Tryz.zeroValue9}

open Go.RowKit Go.Sort Go.Lib in

theorem shl_strings_HasPrefix (s p:ByteArray) (w:World):
  Calls Tryz.prog 121 #[.string s,.string p] w fun e w'=>e= .returned (.bool (Lib.hasPrefix s.data.toList p.data.toList))∧w'=w:=Any.strings_HasPrefix shl_lays99 s p w


def strings_HasPrefix.f (a0:ByteArray) (a1:ByteArray):Option Bool:=some (Lib.hasPrefix a0.data.toList a1.data.toList)

theorem strings_HasPrefix.calls (a0:ByteArray) (a1:ByteArray) (r:Bool) (w:World) (h:strings_HasPrefix.f a0 a1=some r):
  Calls Tryz.prog 121 #[.string a0,.string a1] w fun e w'=>e= .returned (.bool r)∧Drawn0 w w':=by
 obtain rfl:=Option.some.inj h
 exact(shl_strings_HasPrefix a0 a1 w).mono fun e w' ⟨he,hw⟩=>⟨he,hw ▸ Drawn0.refl _⟩



/-! ### impl_ColNumber: function 122 -/

mutual
def impl_ColNumber.j0:Nat→ByteArray→Bool→Option (Int)
 |0,_,_=>none
 |k+1,x0,x12=>if x12=true then(some 0)else(impl_ColNumber.l0 k x0 0 0)
def impl_ColNumber.l0:Nat→ByteArray→Int→Int→Option (Int)
 |0,_,_,_=>none
 |k+1,x0,x3,x4=>if x4<(x0.size:Int)then(if 0≤x4 then(if(bt x0 x4)<65 then(some 0)else(if(bt x0 x4) > 90 then(some 0)else(impl_ColNumber.l0 k x0 (wrap64 ((wrap64 ((wrap64 (x3*26))+(((bt x0 x4)-65) % 256)))+1)) (wrap64 (x4+1)))))else(none))else(if x3 > 200 then(some 0)else(some x3))
end

def impl_ColNumber.f (k:Nat) (a0:ByteArray):Option (Int):=if(a0.size:Int)<1 then(impl_ColNumber.j0 k a0 true)else(impl_ColNumber.j0 k a0 (decide ((a0.size:Int) > 3)))

theorem impl_ColNumber.mono_l:∀ k,(∀ y0 y1,LeO (impl_ColNumber.j0 k y0 y1) (impl_ColNumber.j0 (k+1) y0 y1))∧(∀ y0 y1 y2,LeO (impl_ColNumber.l0 k y0 y1 y2) (impl_ColNumber.l0 (k+1) y0 y1 y2))
 |0=>⟨fun _ _ r h=>by simp [impl_ColNumber.j0]at h,fun _ _ _ r h=>by simp [impl_ColNumber.l0]at h⟩
 |k+1=>by
  obtain⟨ih0,ih1⟩:=impl_ColNumber.mono_l k
  refine⟨?_,?_⟩
  ·intro y0 y1
   unfold impl_ColNumber.j0
   repeat' first
   |(with_reducible exact ih0 _ _)
   |(with_reducible exact ih1 _ _ _)
   |(with_reducible exact LeO.refl _)
   |(with_reducible exact LeO.none _)
   |(with_reducible refine LeO.ite ?_ ?_)
   |(with_reducible refine LeO.bind ?_ (fun _=> ?_))
   |exact ih0 _ _
   |exact ih1 _ _ _
   |exact LeO.none _
   |refine LeO.ite ?_ ?_
   |refine LeO.bind ?_ (fun _=> ?_)
  ·intro y0 y1 y2
   unfold impl_ColNumber.l0
   repeat' first
   |(with_reducible exact ih0 _ _)
   |(with_reducible exact ih1 _ _ _)
   |(with_reducible exact LeO.refl _)
   |(with_reducible exact LeO.none _)
   |(with_reducible refine LeO.ite ?_ ?_)
   |(with_reducible refine LeO.bind ?_ (fun _=> ?_))
   |exact ih0 _ _
   |exact ih1 _ _ _
   |exact LeO.none _
   |refine LeO.ite ?_ ?_
   |refine LeO.bind ?_ (fun _=> ?_)

theorem impl_ColNumber.mono:∀ a0 k,LeO (impl_ColNumber.f k a0) (impl_ColNumber.f (k+1) a0):=by
 intro a0 k
 obtain⟨ih0,ih1⟩:=impl_ColNumber.mono_l k
 unfold impl_ColNumber.f
 repeat' first
   |(with_reducible exact ih0 _ _)
   |(with_reducible exact ih1 _ _ _)
   |(with_reducible exact LeO.refl _)
   |(with_reducible exact LeO.none _)
   |(with_reducible refine LeO.ite ?_ ?_)
   |(with_reducible refine LeO.bind ?_ (fun _=> ?_))
   |exact ih0 _ _
   |exact ih1 _ _ _
   |exact LeO.none _
   |refine LeO.ite ?_ ?_
   |refine LeO.bind ?_ (fun _=> ?_)

set_option maxHeartbeats 8000000 in
set_option maxRecDepth 100000 in
theorem impl_ColNumber.calls (k:Nat) (a0:ByteArray) (r:Int) (w:World) (h:impl_ColNumber.f k a0=some r):
  Calls Tryz.prog 122 #[.string a0] w fun e w'=>e= .returned (.int .i64 r)∧Drawn0 w w':=by
 have H:(if(a0.size:Int)<1 then(impl_ColNumber.j0 k a0 true)else(impl_ColNumber.j0 k a0 (decide ((a0.size:Int) > 3))))=some r:=h
 clear h
 have HC2:=Aside0.mk H
 clear H
 go_enter Tryz.func122,Tryz.ntmps122
 go_upto_region 1 with (fail)
 go_cut [12] (fun v12 wc=>∃ (kq:Nat) (x12_1:Bool),v12= .bool x12_1∧Aside0 (impl_ColNumber.j0 kq a0 x12_1=some r)∧Aside0 (kq≤k)∧Drawn0 w wc)
 case first=>
  have H:=HC2.out
  clear HC2
  by_cases c3:(a0.size:Int)<1
  ·rw [if_pos c3]at H
   have c3b0:decide ((a0.size:Int)<1)=true:=decide_eq_true c3
   have c3b1:decide (a0.size<1)=true:=decide_eq_true (by omega)
   clear c3
   (first|rw [c3b0]|(simp only [i64_w,i32_w];rw [c3b0])|skip)
   have H':=Aside0.mk H
   clear H
   go_wp2
   go_meet
   case rel=>exact⟨_,(true),(by first|rfl|(simp;done)|(simp [*];done)|(simp;unfold wrap64;omega)),H',⟨by first|omega|exact Nat.le_refl _⟩,by repeat(first|exact Drawn0.refl _|apply Drawn0.step)⟩
  ·rw [if_neg c3]at H
   have c3b0:decide ((a0.size:Int)<1)=false:=decide_eq_false c3
   have c3b1:decide (a0.size<1)=false:=decide_eq_false (by omega)
   clear c3
   (first|rw [c3b0]|(simp only [i64_w,i32_w];rw [c3b0])|skip)
   have H':=Aside0.mk H
   clear H
   go_wp2
   go_meet
   case rel=>exact⟨_,(decide ((a0.size:Int) > 3)),(by first|rfl|(simp;done)|(simp [*];done)|(simp;unfold wrap64;omega)),H',⟨by first|omega|exact Nat.le_refl _⟩,by repeat(first|exact Drawn0.refl _|apply Drawn0.step)⟩
 case rest=>
  clear HC2
  try clear c1
  try clear p2
  try clear c3
  try clear c3b0
  try clear c3b1
  obtain⟨kq,x12_1,rfl,HA,HJ1,⟨mc1,rfl⟩⟩:=hcut
  cases kq with
  |zero=>exact absurd HA.out (by simp [impl_ColNumber.j0])
  |succ kj1=>
   have H:=HA.out
   clear HA
   simp only [impl_ColNumber.j0]at H
   by_cases c4:x12_1=true
   ·subst c4
    have H1:(some 0)=some r:=by rw [if_pos rfl]at H;exact H
    clear H
    have H:=H1
    clear H1
    obtain rfl:=Option.some.inj H
    go_wp2
    go_ret
    exact⟨by first|rfl|(simp;done)|(simp [*];done),by repeat(first|exact Drawn0.refl _|apply Drawn0.step)⟩
   ·replace c4:=Bool.eq_false_iff.mpr c4
    subst c4
    have H1:(impl_ColNumber.l0 kj1 a0 0 0)=some r:=by rw [if_neg (show ¬ (false=true)by decide)]at H;exact H
    clear H
    have H:=H1
    clear H1
    have H':=Aside0.mk H
    clear H
    go_wp2
    go_loopg [3,4] kj1 (fun kq v3 v4 w'=>∃ (x3_2:Int) (x4_2:Int),v3= .int .i64 x3_2∧v4= .int .i64 x4_2∧Aside0 (impl_ColNumber.l0 kq a0 x3_2 x4_2=some r)∧Aside0 (kq≤kj1)∧Drawn0 w w')
    case atStart=>exact⟨(0),(0),(by first|rfl|(simp;done)|(simp [*];done)|(simp;unfold wrap64;omega)),(by first|rfl|(simp;done)|(simp [*];done)|(simp;unfold wrap64;omega)),H',⟨Nat.le_refl _⟩,by repeat(first|exact Drawn0.refl _|apply Drawn0.step)⟩
    case round=>
     clear H'
     try clear c1
     try clear p2
     try clear c3
     try clear c3b0
     try clear c3b1
     try clear c4
     try clear p2
     obtain⟨x3_2,x4_2,rfl,rfl,HA,HK2,⟨m2,rfl⟩⟩:=hrel
     cases gk with
     |zero=>exact absurd HA.out (by simp [impl_ColNumber.l0])
     |succ k2=>
      have H:=HA.out
      clear HA
      simp only [impl_ColNumber.l0]at H
      by_cases c5:x4_2<(a0.size:Int)
      ·rw [if_pos c5]at H
       have c5b0:decide (x4_2<(a0.size:Int))=true:=decide_eq_true c5
       clear c5
       by_cases c6:0≤x4_2
       ·rw [if_pos c6]at H
        have c6b0:decide (0≤x4_2)=true:=decide_eq_true c6
        clear c6
        by_cases c8:(bt a0 x4_2)<65
        ·rw [if_pos c8]at H
         have c8b0:decide ((bt a0 x4_2)<65)=true:=decide_eq_true c8
         clear c8
         obtain rfl:=Option.some.inj H
         have p7:0≤(x4_2:Int):=of_decide_eq_true (by first|(with_reducible assumption)|assumption)
         have q7:x4_2<(a0.size:Int):=of_decide_eq_true (by first|(with_reducible assumption)|assumption)
         have hx7:=bt_at a0 x4_2
         replace p7:=eq_true p7
         replace q7:=eq_true q7
         go_wp2
         go_ret
         exact⟨by first|rfl|(simp;done)|(simp [*];done),by repeat(first|exact Drawn0.refl _|apply Drawn0.step)⟩
        ·rw [if_neg c8]at H
         have c8b0:decide ((bt a0 x4_2)<65)=false:=decide_eq_false c8
         clear c8
         by_cases c10:(bt a0 x4_2) > 90
         ·rw [if_pos c10]at H
          have c10b0:decide (90<(bt a0 x4_2))=true:=decide_eq_true c10
          clear c10
          obtain rfl:=Option.some.inj H
          have p7:0≤(x4_2:Int):=of_decide_eq_true (by first|(with_reducible assumption)|assumption)
          have q7:x4_2<(a0.size:Int):=of_decide_eq_true (by first|(with_reducible assumption)|assumption)
          have hx7:=bt_at a0 x4_2
          replace p7:=eq_true p7
          replace q7:=eq_true q7
          have p9:0≤(x4_2:Int):=of_decide_eq_true (by first|(with_reducible assumption)|assumption)
          have q9:x4_2<(a0.size:Int):=of_decide_eq_true (by first|(with_reducible assumption)|assumption)
          have hx9:=bt_at a0 x4_2
          replace p9:=eq_true p9
          replace q9:=eq_true q9
          go_wp2
          go_ret
          exact⟨by first|rfl|(simp;done)|(simp [*];done),by repeat(first|exact Drawn0.refl _|apply Drawn0.step)⟩
         ·rw [if_neg c10]at H
          have c10b0:decide (90<(bt a0 x4_2))=false:=decide_eq_false c10
          clear c10
          have H':=Aside0.mk H
          clear H
          have p7:0≤(x4_2:Int):=of_decide_eq_true (by first|(with_reducible assumption)|assumption)
          have q7:x4_2<(a0.size:Int):=of_decide_eq_true (by first|(with_reducible assumption)|assumption)
          have hx7:=bt_at a0 x4_2
          replace p7:=eq_true p7
          replace q7:=eq_true q7
          have p9:0≤(x4_2:Int):=of_decide_eq_true (by first|(with_reducible assumption)|assumption)
          have q9:x4_2<(a0.size:Int):=of_decide_eq_true (by first|(with_reducible assumption)|assumption)
          have hx9:=bt_at a0 x4_2
          replace p9:=eq_true p9
          replace q9:=eq_true q9
          have p11:0≤(x4_2:Int):=of_decide_eq_true (by first|(with_reducible assumption)|assumption)
          have q11:x4_2<(a0.size:Int):=of_decide_eq_true (by first|(with_reducible assumption)|assumption)
          have hx11:=bt_at a0 x4_2
          replace p11:=eq_true p11
          replace q11:=eq_true q11
          go_wp2
          go_roundg k2
          case measure=>have:=HJ1.out;have:=HK2.out;omega
          case rel=>exact⟨(wrap64 ((wrap64 ((wrap64 (x3_2*26))+(((bt a0 x4_2)-65) % 256)))+1)),(wrap64 (x4_2+1)),(by first|rfl|(simp;done)|(simp [*];done)|(simp;unfold wrap64;omega)),(by first|rfl|(simp;done)|(simp [*];done)|(simp;unfold wrap64;omega)),H',⟨by have:=HJ1.out;have:=HK2.out;omega⟩,by repeat(first|exact Drawn0.refl _|apply Drawn0.step)⟩
       ·rw [if_neg c6]at H
        exact absurd H (by simp)
      ·rw [if_neg c5]at H
       have c5b0:decide (x4_2<(a0.size:Int))=false:=decide_eq_false c5
       clear c5
       by_cases c12:x3_2 > 200
       ·rw [if_pos c12]at H
        have c12b0:decide (200<x3_2)=true:=decide_eq_true c12
        clear c12
        obtain rfl:=Option.some.inj H
        go_wp2
        go_ret
        exact⟨by first|rfl|(simp;done)|(simp [*];done),by repeat(first|exact Drawn0.refl _|apply Drawn0.step)⟩
       ·rw [if_neg c12]at H
        have c12b0:decide (200<x3_2)=false:=decide_eq_false c12
        clear c12
        obtain rfl:=Option.some.inj H
        go_wp2
        go_ret
        exact⟨by first|rfl|(simp;done)|(simp [*];done),by repeat(first|exact Drawn0.refl _|apply Drawn0.step)⟩



/-! ### impl_ColName: function 140 -/

mutual
def impl_ColName.j0:Nat→Int→Bool→Option (ByteArray)
 |0,_,_=>none
 |k+1,x0,x9=>if x9=true then(some (⟨#[]⟩:ByteArray))else(impl_ColName.l0 k x0 (⟨#[]⟩:ByteArray))
def impl_ColName.l0:Nat→Int→ByteArray→Option (ByteArray)
 |0,_,_=>none
 |k+1,x0,x3=>if x0 > 0 then((some (([(wrap64 (65+(Int.tmod (wrap64 (x0-1)) 26))) % 256]:List Int):List Int)).bind fun y444=>(if(strOfNums y444).size+x3.size≤9223372036854775807 then(impl_ColName.l0 k (wrap64 (Int.tdiv (wrap64 (x0-1)) 26)) ((strOfNums y444) ++ x3))else(none)))else(some x3)
end

def impl_ColName.f (k:Nat) (a0:Int):Option (ByteArray):=if a0<1 then(impl_ColName.j0 k a0 true)else(impl_ColName.j0 k a0 (decide (a0 > 200)))

theorem impl_ColName.mono_l:∀ k,(∀ y0 y1,LeO (impl_ColName.j0 k y0 y1) (impl_ColName.j0 (k+1) y0 y1))∧(∀ y0 y1,LeO (impl_ColName.l0 k y0 y1) (impl_ColName.l0 (k+1) y0 y1))
 |0=>⟨fun _ _ r h=>by simp [impl_ColName.j0]at h,fun _ _ r h=>by simp [impl_ColName.l0]at h⟩
 |k+1=>by
  obtain⟨ih0,ih1⟩:=impl_ColName.mono_l k
  refine⟨?_,?_⟩
  ·intro y0 y1
   unfold impl_ColName.j0
   repeat' first
   |(with_reducible exact ih0 _ _)
   |(with_reducible exact ih1 _ _)
   |(with_reducible exact LeO.refl _)
   |(with_reducible exact LeO.none _)
   |(with_reducible refine LeO.ite ?_ ?_)
   |(with_reducible refine LeO.bind ?_ (fun _=> ?_))
   |exact ih0 _ _
   |exact ih1 _ _
   |exact LeO.none _
   |refine LeO.ite ?_ ?_
   |refine LeO.bind ?_ (fun _=> ?_)
  ·intro y0 y1
   unfold impl_ColName.l0
   repeat' first
   |(with_reducible exact ih0 _ _)
   |(with_reducible exact ih1 _ _)
   |(with_reducible exact LeO.refl _)
   |(with_reducible exact LeO.none _)
   |(with_reducible refine LeO.ite ?_ ?_)
   |(with_reducible refine LeO.bind ?_ (fun _=> ?_))
   |exact ih0 _ _
   |exact ih1 _ _
   |exact LeO.none _
   |refine LeO.ite ?_ ?_
   |refine LeO.bind ?_ (fun _=> ?_)

theorem impl_ColName.mono:∀ a0 k,LeO (impl_ColName.f k a0) (impl_ColName.f (k+1) a0):=by
 intro a0 k
 obtain⟨ih0,ih1⟩:=impl_ColName.mono_l k
 unfold impl_ColName.f
 repeat' first
   |(with_reducible exact ih0 _ _)
   |(with_reducible exact ih1 _ _)
   |(with_reducible exact LeO.refl _)
   |(with_reducible exact LeO.none _)
   |(with_reducible refine LeO.ite ?_ ?_)
   |(with_reducible refine LeO.bind ?_ (fun _=> ?_))
   |exact ih0 _ _
   |exact ih1 _ _
   |exact LeO.none _
   |refine LeO.ite ?_ ?_
   |refine LeO.bind ?_ (fun _=> ?_)

set_option maxHeartbeats 8000000 in
set_option maxRecDepth 100000 in
theorem impl_ColName.calls (k:Nat) (a0:Int) (r:ByteArray) (w:World) (h:impl_ColName.f k a0=some r):
  Calls Tryz.prog 140 #[.int .i64 a0] w fun e w'=>e= .returned (.string r)∧Below w.heap.size w w':=by
 have HB:=Aside0.mk (Below.refl w.heap.size w)
 have H:(if a0<1 then(impl_ColName.j0 k a0 true)else(impl_ColName.j0 k a0 (decide (a0 > 200))))=some r:=h
 clear h
 have HC2:=Aside0.mk H
 clear H
 go_enter Tryz.func140,Tryz.ntmps140
 go_upto_region 1 with (fail)
 go_cut [9] (fun v9 wc=>∃ (kq:Nat) (x9_1:Bool),v9= .bool x9_1∧Aside0 (impl_ColName.j0 kq a0 x9_1=some r)∧Aside0 (kq≤k)∧Aside0 (Below w.heap.size w wc))
 case first=>
  have H:=HC2.out
  clear HC2
  by_cases c3:a0<1
  ·rw [if_pos c3]at H
   have c3b0:decide (a0<1)=true:=decide_eq_true c3
   clear c3
   (first|rw [c3b0]|(simp only [i64_w,i32_w];rw [c3b0])|skip)
   have H':=Aside0.mk H
   clear H
   go_wp2
   go_meet
   case rel=>exact⟨_,(true),(by first|rfl|(simp;done)|(simp [*];done)|(simp;unfold wrap64;omega)),H',⟨by first|omega|exact Nat.le_refl _⟩,⟨by repeat(first|(with_reducible first|exact HB.out|apply z2q|apply z3q|apply z4q)|exact HB.out)⟩⟩
  ·rw [if_neg c3]at H
   have c3b0:decide (a0<1)=false:=decide_eq_false c3
   clear c3
   (first|rw [c3b0]|(simp only [i64_w,i32_w];rw [c3b0])|skip)
   have H':=Aside0.mk H
   clear H
   go_wp2
   go_meet
   case rel=>exact⟨_,(decide (a0 > 200)),(by first|rfl|(simp;done)|(simp [*];done)|(simp;unfold wrap64;omega)),H',⟨by first|omega|exact Nat.le_refl _⟩,⟨by repeat(first|(with_reducible first|exact HB.out|apply z2q|apply z3q|apply z4q)|exact HB.out)⟩⟩
 case rest=>
  clear HC2
  try clear c1
  try clear p2
  try clear c3
  try clear c3b0
  obtain⟨kq,x9_1,rfl,HA,HJ1,HB⟩:=hcut
  cases kq with
  |zero=>exact absurd HA.out (by simp [impl_ColName.j0])
  |succ kj1=>
   have H:=HA.out
   clear HA
   simp only [impl_ColName.j0]at H
   by_cases c4:x9_1=true
   ·subst c4
    have H1:(some (⟨#[]⟩:ByteArray))=some r:=by rw [if_pos rfl]at H;exact H
    clear H
    have H:=H1
    clear H1
    obtain rfl:=Option.some.inj H
    go_wp2
    go_ret
    exact⟨by first|rfl|(simp [errW_none,errW_some]<;>rfl)|(simp [*,errW_none,errW_some]<;>rfl),by repeat(first|(with_reducible first|exact HB.out|apply z2q|apply z3q|apply z4q)|exact HB.out)⟩
   ·replace c4:=Bool.eq_false_iff.mpr c4
    subst c4
    have H1:(impl_ColName.l0 kj1 a0 (⟨#[]⟩:ByteArray))=some r:=by rw [if_neg (show ¬ (false=true)by decide)]at H;exact H
    clear H
    have H:=H1
    clear H1
    have H':=Aside0.mk H
    clear H
    go_wp2
    go_loopg [0,3] kj1 (fun kq v0 v3 w'=>∃ (x0_2:Int) (x3_2:ByteArray),v0= .int .i64 x0_2∧v3= .string x3_2∧Aside0 (impl_ColName.l0 kq x0_2 x3_2=some r)∧Aside0 (kq≤kj1)∧Aside0 (Below w.heap.size w w'))
    case atStart=>exact⟨(a0),((⟨#[]⟩:ByteArray)),(by first|rfl|(simp;done)|(simp [*];done)|(simp;unfold wrap64;omega)),(by first|rfl|(simp;done)|(simp [*];done)|(simp;unfold wrap64;omega)),H',⟨Nat.le_refl _⟩,⟨by repeat(first|(with_reducible first|exact HB.out|apply z2q|apply z3q|apply z4q)|exact HB.out)⟩⟩
    case round=>
     clear H'
     try clear c1
     try clear p2
     try clear c3
     try clear c3b0
     try clear c4
     try clear p2
     obtain⟨x0_2,x3_2,rfl,rfl,HA,HK2,HB⟩:=hrel
     cases gk with
     |zero=>exact absurd HA.out (by simp [impl_ColName.l0])
     |succ k2=>
      have H:=HA.out
      clear HA
      simp only [impl_ColName.l0]at H
      by_cases c5:x0_2 > 0
      ·rw [if_pos c5]at H
       have c5b0:decide (0<x0_2)=true:=decide_eq_true c5
       clear c5
       obtain⟨y444,hy444⟩:∃ y_:List Int,y_=(([(wrap64 (65+(Int.tmod (wrap64 (x0_2-1)) 26))) % 256]:List Int)):=⟨_,rfl⟩
       replace H:(if(strOfNums y444).size+x3_2.size≤9223372036854775807 then(impl_ColName.l0 k2 (wrap64 (Int.tdiv (wrap64 (x0_2-1)) 26)) ((strOfNums y444) ++ x3_2))else(none))=some r:=by first|(rw [hy444];with_reducible exact H)|(have H2_:=(Option.bind_some _ _).symm.trans H;rw [hy444];with_reducible exact H2_)|(have H2_:=(Option.bind_some _ _).symm.trans H;with_reducible exact H2_)|with_reducible exact H|(rw [hy444];exact H)|exact H
       have Ny444:=Aside0.mk hy444
       clear hy444
       by_cases c6:(strOfNums y444).size+x3_2.size≤9223372036854775807
       ·rw [if_pos c6]at H
        have c6b0:=eq_true c6
        have c6b1:decide ((strOfNums y444).size+x3_2.size≤9223372036854775807)=true:=decide_eq_true c6
        try have c6b2:(9223372036854775807<(strOfNums y444).size+x3_2.size)=False:=eq_false (Nat.not_lt.2 c6)
        have H':=Aside0.mk H
        clear H
        go_wp2_with (first|((with_reducible refine z15q (N:=18) rfl ?_);refine Kd.R_lit (Kd.int .u8) _ 5 ?hg (N:=18) ?hd (xs:=([(wrap64 (65+(Int.tmod (wrap64 (x0_2-1)) 26))) % 256]:List Int)) (inner:= [.int .u8 ((wrap64 (65+(Int.tmod (wrap64 (x0_2-1)) 26))) % 256)]) (ok:=fun _=>True) (okp:=fun _=>True) ?hr ?hp (fun _ hk=>hk) trivial (Below.refl _ _) (Nat.le_refl _) (by simp) ?_;(case hd=>rfl);(case hg=>rfl);(case hr=>first|(go_simp;done)|(go_simp;rfl));(case hp=>exact(Reps.one (show Kd.M (Kd.int .u8) _ _ _ ((wrap64 (65+(Int.tmod (wrap64 (x0_2-1)) 26))) % 256) [.int .u8 ((wrap64 (65+(Int.tmod (wrap64 (x0_2-1)) 26))) % 256)]from rfl) (Reps.none _ _)));intro v445 w7 ho8 hb hg_ hnew_;clear hg_ hnew_;(first|rw [←Ny444.out]at ho8|(simp only [Int.reduceToNat]at ho8;rw [←Ny444.out]at ho8));have n0_:=Aside0.mk (Kd.R_lower ho8 (z6q (ibh HB.out)));have n1_:=Aside0.mk (z5q (ibh HB.out) hb);clear HB;have HO446:=n0_;have HB:=n1_;clear n0_ n1_;clear hb ho8;have hcv9:=own_string (P:=Tryz.prog) Tryz.underlying116 Tryz.underlying5 Tryz.underlying9 (Kd.own_of_R HO446.out)))
        go_roundg k2
        case measure=>have:=HJ1.out;have:=HK2.out;omega
        case rel=>exact⟨(wrap64 (Int.tdiv (wrap64 (x0_2-1)) 26)),((strOfNums y444) ++ x3_2),(by first|rfl|(simp;done)|(simp [*];done)|(simp;unfold wrap64;omega)),(by first|rfl|(simp;done)|(simp [*];done)|(simp;unfold wrap64;omega)),H',⟨by have:=HJ1.out;have:=HK2.out;omega⟩,⟨by repeat(first|(with_reducible first|exact HB.out|apply z2q|apply z3q|apply z4q)|exact HB.out)⟩⟩
       ·rw [if_neg c6]at H
        exact absurd H (by simp)
      ·rw [if_neg c5]at H
       have c5b0:decide (0<x0_2)=false:=decide_eq_false c5
       clear c5
       obtain rfl:=Option.some.inj H
       go_wp2
       go_ret
       exact⟨by first|rfl|(simp [errW_none,errW_some]<;>rfl)|(simp [*,errW_none,errW_some]<;>rfl),by repeat(first|(with_reducible first|exact HB.out|apply z2q|apply z3q|apply z4q)|exact HB.out)⟩



/-! ### impl_RefText: function 123 -/

def impl_RefText.j0:Nat→ByteArray→Int→Int→Bool→Bool→Option (ByteArray)
 |0,_,_,_,_,_=>none
 |k+1,x3,x448000,x448001,x448002,x448003=>(impl_ColName.f k x448001).bind fun t449=>(if x3.size+t449.size≤9223372036854775807 then(if x448002=true then(if(x3 ++ t449).size+1≤9223372036854775807 then((strconv_Itoa.f x448000).bind fun t450=>(if((x3 ++ t449) ++ (⟨#[36]⟩:ByteArray)).size+t450.size≤9223372036854775807 then(some (((x3 ++ t449) ++ (⟨#[36]⟩:ByteArray)) ++ t450))else(none)))else(none))else((strconv_Itoa.f x448000).bind fun t451=>(if(x3 ++ t449).size+t451.size≤9223372036854775807 then(some ((x3 ++ t449) ++ t451))else(none))))else(none))

def impl_RefText.f (k:Nat) (a0_0:Int) (a0_1:Int) (a0_2:Bool) (a0_3:Bool):Option (ByteArray):=(impl_GoodRef.f a0_0 a0_1 a0_2 a0_3).bind fun t448=>(if t448=true then(if a0_3=true then(impl_RefText.j0 k (⟨#[36]⟩:ByteArray) a0_0 a0_1 a0_2 a0_3)else(impl_RefText.j0 k (⟨#[]⟩:ByteArray) a0_0 a0_1 a0_2 a0_3))else(some (⟨#[]⟩:ByteArray)))

theorem impl_RefText.mono_l:∀ k,(∀ y0 y1 y2 y3 y4,LeO (impl_RefText.j0 k y0 y1 y2 y3 y4) (impl_RefText.j0 (k+1) y0 y1 y2 y3 y4))
 |0=>fun _ _ _ _ _ r h=>by simp [impl_RefText.j0]at h
 |k+1=>by
  have ih0:=impl_RefText.mono_l k
  ·intro y0 y1 y2 y3 y4
   unfold impl_RefText.j0
   repeat' first
   |(with_reducible exact ih0 _ _ _ _ _)
   |(with_reducible exact impl_ColName.mono _ _)
   |(with_reducible exact LeO.refl _)
   |(with_reducible exact LeO.none _)
   |(with_reducible refine LeO.ite ?_ ?_)
   |(with_reducible refine LeO.bind ?_ (fun _=> ?_))
   |exact ih0 _ _ _ _ _
   |exact impl_ColName.mono _ _
   |exact LeO.none _
   |refine LeO.ite ?_ ?_
   |refine LeO.bind ?_ (fun _=> ?_)

theorem impl_RefText.mono:∀ a0 a1 a2 a3 k,LeO (impl_RefText.f k a0 a1 a2 a3) (impl_RefText.f (k+1) a0 a1 a2 a3):=by
 intro a0 a1 a2 a3 k
 have ih0:=impl_RefText.mono_l k
 unfold impl_RefText.f
 repeat' first
   |(with_reducible exact ih0 _ _ _ _ _)
   |(with_reducible exact impl_ColName.mono _ _)
   |(with_reducible exact LeO.refl _)
   |(with_reducible exact LeO.none _)
   |(with_reducible refine LeO.ite ?_ ?_)
   |(with_reducible refine LeO.bind ?_ (fun _=> ?_))
   |exact ih0 _ _ _ _ _
   |exact impl_ColName.mono _ _
   |exact LeO.none _
   |refine LeO.ite ?_ ?_
   |refine LeO.bind ?_ (fun _=> ?_)

end Go.Proofs.YtegdpgpbdcediaaGreatDoor.PFnExactUsedNames
