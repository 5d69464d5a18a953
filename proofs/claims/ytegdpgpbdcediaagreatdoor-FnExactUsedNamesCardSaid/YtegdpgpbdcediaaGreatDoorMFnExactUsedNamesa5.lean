/- Functions of the program as Lean functions, and proofs that the Go code comes to their answers: for the law FnExactUsedNames; made out of the print by a program of mine (compact.py). No conditions but each theorem's own. -/
import Derived.Test.YtegdpgpbdcediaaGreatDoorMFnExactUsedNamesa0
import Derived.Test.YtegdpgpbdcediaaGreatDoorMFnExactUsedNamesa2
import Derived.Test.YtegdpgpbdcediaaGreatDoorMFnExactUsedNamesa3
import Derived.Test.YtegdpgpbdcediaaGreatDoorMFnExactUsedNamesa4
namespace Go.Proofs.YtegdpgpbdcediaaGreatDoor.PFnExactUsedNames
open List (map_toArray map_cons map_nil length_drop length_take set_cons_zero set_cons_succ setIfInBounds_toArray)
open Go.RowKit Go.Proofs.YtegdpgpbdcediaaGreatDoorW.PrintWords Go.Proofs.YtegdpgpbdcediaaGreatDoorW.PrintLast Go.Proofs.YtegdpgpbdcediaaGreatDoorW.PrintMore
attribute [local go_sem] max2_int min2_int max_two min_two max_three min_three max_four min_four   -- for this text's walks alone
set_option linter.unusedVariables false
set_option linter.unusedSimpArgs false

attribute [local go_sem high] eqA47 eqA65
abbrev bt5_0:Array Bool:=#[false,false,false,false,false,false,false,false,false,false,false,false,false,false,false,false]
abbrev bt5_1:Array Bool:=#[true,false,false,false,false,false,false,false,false,false,false,false,false,false,false,false]
abbrev bt5_2:Array Bool:=#[true,false,false,true,false,false,false,false,false,false,false,false,false,false,false,false]
abbrev bt5_3:Array Bool:=#[true,false,false,true,false,false,false,true,false,false,false,false,false,false,false,false]
abbrev bt5_4:Array Bool:=#[true,false,false,true,false,false,false,true,false,false,false,true,false,false,false,false]
abbrev bt5_5:Array Bool:=#[true,true,false,true,false,false,false,true,false,false,false,true,false,false,false,false]
abbrev bt5_6:Array Bool:=#[true,true,false,true,true,false,false,true,false,false,false,true,false,false,false,false]
abbrev bt5_7:Array Bool:=#[true,true,false,true,true,false,false,true,true,false,false,true,false,false,false,false]
abbrev bt5_8:Array Bool:=#[true,true,false,true,true,false,false,true,true,false,false,true,true,false,false,false]
abbrev bt5_9:Array Bool:=#[true,true,true,true,true,false,false,true,true,false,false,true,true,false,false,false]
abbrev bt5_10:Array Bool:=#[true,true,true,true,true,true,false,true,true,false,false,true,true,false,false,false]
abbrev bt5_11:Array Bool:=#[true,true,true,true,true,true,true,true,true,false,false,true,true,false,false,false]
abbrev bt5_12:Array Bool:=#[true,true,true,true,true,true,true,true,true,true,false,true,true,false,false,false]
abbrev bt5_13:Array Bool:=#[true,true,true,true,true,true,true,true,true,true,true,true,true,false,false,false]
abbrev bt5_14:Array Bool:=#[true,true,true,true,true,true,true,true,true,true,true,true,true,true,false,false]
abbrev bt5_15:Array Bool:=#[true,true,true,true,true,true,true,true,true,true,true,true,true,true,true,false]
abbrev bt5_16:Array Bool:=#[true,true,true,true,true,true,true,true,true,true,true,true,true,true,true,true]
set_option maxHeartbeats 8000000 in
set_option maxRecDepth 100000 in
theorem spec_RefText.calls (k:Nat) (a0_0:Int) (a0_1:Int) (a0_2:Bool) (a0_3:Bool) (r:ByteArray) (w:World) (h:spec_RefText.f k a0_0 a0_1 a0_2 a0_3=some r):
  Calls Tryz.prog 149 #[.agg #[.int .i64 a0_0,.int .i64 a0_1,.bool a0_2,.bool a0_3]] w fun e w'=>e= .returned (.string r)∧Below w.heap.size w w':=by
 have hu47:=Tryz.underlying47
 have HB:=Aside0.mk (Below.refl w.heap.size w)
 have H:((spec_GoodRef.f a0_0 a0_1 a0_2 a0_3).bind fun t295=>(if t295=true then((spec_l3Fix.f a0_3).bind fun t296=>((spec_ColName.f k a0_1).bind fun t297=>(if t296.size+t297.size≤9223372036854775807 then((spec_l3Fix.f a0_2).bind fun t298=>(if(t296 ++ t297).size+t298.size≤9223372036854775807 then((spec_l1Num.f a0_0).bind fun t299=>(if((t296 ++ t297) ++ t298).size+t299.size≤9223372036854775807 then(some (((t296 ++ t297) ++ t298) ++ t299))else(none)))else(none)))else(none))))else(some (⟨#[]⟩:ByteArray))))=some r:=h
 clear h
 replace H:=Option.bind_eq_some_iff.mp H
 obtain⟨t295,A20,H⟩:=H
 replace H:(if t295=true then((spec_l3Fix.f a0_3).bind fun t296=>((spec_ColName.f k a0_1).bind fun t297=>(if t296.size+t297.size≤9223372036854775807 then((spec_l3Fix.f a0_2).bind fun t298=>(if(t296 ++ t297).size+t298.size≤9223372036854775807 then((spec_l1Num.f a0_0).bind fun t299=>(if((t296 ++ t297) ++ t298).size+t299.size≤9223372036854775807 then(some (((t296 ++ t297) ++ t298) ++ t299))else(none)))else(none)))else(none))))else(some (⟨#[]⟩:ByteArray)))=some r:=H
 have A2:=Aside0.mk A20
 clear A20
 by_cases c3:t295=true
 ·subst c3
  have H1:((spec_l3Fix.f a0_3).bind fun t296=>((spec_ColName.f k a0_1).bind fun t297=>(if t296.size+t297.size≤9223372036854775807 then((spec_l3Fix.f a0_2).bind fun t298=>(if(t296 ++ t297).size+t298.size≤9223372036854775807 then((spec_l1Num.f a0_0).bind fun t299=>(if((t296 ++ t297) ++ t298).size+t299.size≤9223372036854775807 then(some (((t296 ++ t297) ++ t298) ++ t299))else(none)))else(none)))else(none))))=some r:=by rw [if_pos rfl]at H;exact H
  clear H
  have H:=H1
  clear H1
  replace H:=Option.bind_eq_some_iff.mp H
  obtain⟨t296,A40,H⟩:=H
  replace H:((spec_ColName.f k a0_1).bind fun t297=>(if t296.size+t297.size≤9223372036854775807 then((spec_l3Fix.f a0_2).bind fun t298=>(if(t296 ++ t297).size+t298.size≤9223372036854775807 then((spec_l1Num.f a0_0).bind fun t299=>(if((t296 ++ t297) ++ t298).size+t299.size≤9223372036854775807 then(some (((t296 ++ t297) ++ t298) ++ t299))else(none)))else(none)))else(none)))=some r:=H
  have A4:=Aside0.mk A40
  clear A40
  replace H:=Option.bind_eq_some_iff.mp H
  obtain⟨t297,A50,H⟩:=H
  replace H:(if t296.size+t297.size≤9223372036854775807 then((spec_l3Fix.f a0_2).bind fun t298=>(if(t296 ++ t297).size+t298.size≤9223372036854775807 then((spec_l1Num.f a0_0).bind fun t299=>(if((t296 ++ t297) ++ t298).size+t299.size≤9223372036854775807 then(some (((t296 ++ t297) ++ t298) ++ t299))else(none)))else(none)))else(none))=some r:=H
  have A5:=Aside0.mk A50
  clear A50
  by_cases c6:t296.size+t297.size≤9223372036854775807
  ·rw [if_pos c6]at H
   have c6b0:=eq_true c6
   have c6b1:decide (t296.size+t297.size≤9223372036854775807)=true:=decide_eq_true c6
   try have c6b2:(9223372036854775807<t296.size+t297.size)=False:=eq_false (Nat.not_lt.2 c6)
   replace H:=Option.bind_eq_some_iff.mp H
   obtain⟨t298,A70,H⟩:=H
   replace H:(if(t296 ++ t297).size+t298.size≤9223372036854775807 then((spec_l1Num.f a0_0).bind fun t299=>(if((t296 ++ t297) ++ t298).size+t299.size≤9223372036854775807 then(some (((t296 ++ t297) ++ t298) ++ t299))else(none)))else(none))=some r:=H
   have A7:=Aside0.mk A70
   clear A70
   by_cases c8:(t296 ++ t297).size+t298.size≤9223372036854775807
   ·rw [if_pos c8]at H
    have c8b0:=eq_true c8
    have c8b1:decide ((t296 ++ t297).size+t298.size≤9223372036854775807)=true:=decide_eq_true c8
    try have c8b2:(9223372036854775807<(t296 ++ t297).size+t298.size)=False:=eq_false (Nat.not_lt.2 c8)
    try have c8b28:(9223372036854775807<(t296.size+t297.size)+t298.size)=False:=eq_false (Nat.not_lt.2 (by have h8_:=c8;simp only [ByteArray.size_append,ByteArray.size_extract,Nat.min_self,Nat.sub_zero]at h8_;exact h8_))
    replace H:=Option.bind_eq_some_iff.mp H
    obtain⟨t299,A90,H⟩:=H
    replace H:(if((t296 ++ t297) ++ t298).size+t299.size≤9223372036854775807 then(some (((t296 ++ t297) ++ t298) ++ t299))else(none))=some r:=H
    have A9:=Aside0.mk A90
    clear A90
    by_cases c10:((t296 ++ t297) ++ t298).size+t299.size≤9223372036854775807
    ·rw [if_pos c10]at H
     have c10b0:=eq_true c10
     have c10b1:decide (((t296 ++ t297) ++ t298).size+t299.size≤9223372036854775807)=true:=decide_eq_true c10
     try have c10b2:(9223372036854775807<((t296 ++ t297) ++ t298).size+t299.size)=False:=eq_false (Nat.not_lt.2 c10)
     try have c10b28:(9223372036854775807<((t296.size+t297.size)+t298.size)+t299.size)=False:=eq_false (Nat.not_lt.2 (by have h8_:=c10;simp only [ByteArray.size_append,ByteArray.size_extract,Nat.min_self,Nat.sub_zero]at h8_;exact h8_))
     obtain rfl:=Option.some.inj H
     go_enter Tryz.func149,Tryz.ntmps149
     try go_wp2_with (first|((with_reducible refine z15q (N:=1) rfl ?_);refine z13q ?hg (N:=1) ?hd (cs:=#[.int .i64 a0_0,.int .i64 a0_1,.bool a0_2,.bool a0_3]) (t:=47) ?hr ?_;(case hd=>rfl);(case hg=>rfl);(case hr=>first|(go_simp;done)|(go_simp;rfl));intro gb294 hg w11 hbox hb;have n0_:=Aside0.mk (z5q (ibh HB.out) hb);have n1_:=Aside0.mk (hbox);have n2_:=Aside0.mk ((by rw [hg];exact(z6q (ibh HB.out)):w.heap.size≤gb294));have n3_:=Aside0.mk ((by rw [hg];exact(z6q (ibh HB.out)):w.heap.size≤gb294));clear HB;have HB:=n0_;have BK294:=n1_;have GW294:=n2_;have GE294:=n3_;clear n0_ n1_ n2_ n3_;clear hb hbox hg;obtain⟨hcz12_0,hcz12_1,hcz12_2,hcz12_3,hfz12_0,hfz12_1,hfz12_2,hfz12_3⟩:=cr4 (w:=w11) (g:=gb294) BK294.out)|((with_reducible refine z8q (f:=44) rfl ?_);refine z17q (some 4) rfl rfl Tryz.func44 (by kernel_rfl) rfl #[.agg #[.int .i64 a0_0,.int .i64 a0_1,.bool a0_2,.bool a0_3]] rfl (by(try simp only [map_toArray,map_cons,map_nil]);first|done|rfl|(simp only [length_drop,length_take];rfl)) ?_;(with_reducible refine(spec_GoodRef.calls a0_0 a0_1 a0_2 a0_3 true _ A2.out).mono ?_);rintro e w13 ⟨rfl,hb⟩;refine⟨_,rfl,?_⟩;have n0_:=Aside0.mk (z12q (cy BK294.out) hb);have n1_:=Aside0.mk (z5q (ibh HB.out) hb);clear BK294;clear HB;have BK294:=n0_;have HB:=n1_;clear n0_ n1_;(try clear hb);(try clear hb2);(try clear hk);(try clear hi)))
     have n0_:=Aside0.mk (z16q BK294.out)
     have n1_:=Aside0.mk (z4q HB.out)
     clear BK294
     clear HB
     have BK294:=n0_
     have HB:=n1_
     clear n0_ n1_
     refine start_ (n:=16) (S:=fun w'=>w'.cell? ⟨gb294,0,none⟩=some (.int .i64 a0_0)∧w'.cell? ⟨gb294,1,none⟩=some (.int .i64 a0_1)∧w'.cell? ⟨gb294,2,none⟩=some (.bool a0_2)∧w'.cell? ⟨gb294,3,none⟩=some (.bool a0_3)) (ds:= []) bt5_0 (by kernel_rfl) rfl rfl ⟨(z1q BK294.out 0).trans rfl,(z1q BK294.out 1).trans rfl,(z1q BK294.out 2).trans rfl,(z1q BK294.out 3).trans rfl⟩ (fun hHeld=> ?_);refine with_tabW spec_RefText.tab3 spec_RefText.bits3 (fun HT_ HW_=> ?_)
     generalize w13.drew=w14 at BK294 HB hHeld ⊢
     refine pure_ (i:=0) (N:=some 6) (v:= ?_) (a':= ?_) bt5_1 rfl rfl (any_of HT_.out (by kernel_rfl)) (fun _ _ _ h=>h) (Or.inl ⟨by rfl,?_⟩) ?_ ?_
     rotate_left
     ·intro w'
      go_simp
      with_reducible rfl
     rotate_left
     ·simp only [Act.put,setIfInBounds_toArray,set_cons_zero,set_cons_succ,i64_w,i32_w]
      rfl
     refine pure_ (i:=3) (N:=some 9) (v:= ?_) (a':= ?_) bt5_2 rfl rfl (any_of HT_.out (by kernel_rfl)) (fun _ _ _ h=>h) (Or.inl ⟨by rfl,?_⟩) ?_ ?_
     rotate_left
     ·intro w'
      go_simp
      with_reducible rfl
     rotate_left
     ·simp only [Act.put,setIfInBounds_toArray,set_cons_zero,set_cons_succ,i64_w,i32_w]
      rfl
     refine pure_ (i:=7) (N:=some 13) (v:= ?_) (a':= ?_) bt5_3 rfl rfl (any_of HT_.out (by kernel_rfl)) (fun _ _ _ h=>h) (Or.inl ⟨by rfl,?_⟩) ?_ ?_
     rotate_left
     ·intro w'
      go_simp
      with_reducible rfl
     rotate_left
     ·simp only [Act.put,setIfInBounds_toArray,set_cons_zero,set_cons_succ,i64_w,i32_w]
      rfl
     refine pure_ (i:=11) (N:=some 17) (v:= ?_) (a':= ?_) bt5_4 rfl rfl (any_of HT_.out (by kernel_rfl)) (fun _ _ _ h=>h) (Or.inl ⟨by rfl,?_⟩) ?_ ?_
     rotate_left
     ·intro w'
      go_simp
      with_reducible rfl
     rotate_left
     ·simp only [Act.put,setIfInBounds_toArray,set_cons_zero,set_cons_succ,i64_w,i32_w]
      rfl
     refine take_ (i:=1) (N:=some 7) (v:= ?_) (a':= ?_) bt5_5 rfl rfl (take_ofW HT_.out HW_.out (by kernel_rfl)) (fun _ _ _ h=>h) (Or.inl ⟨by rfl,?_⟩) hHeld ?_ ?_
     rotate_left
     ·rintro w' ⟨s0,s1,s2,s3⟩
      go_simp
      with_reducible rfl
     rotate_left
     ·simp only [Act.put,setIfInBounds_toArray,set_cons_zero,set_cons_succ,i64_w,i32_w]
      rfl
     refine take_ (i:=4) (N:=some 10) (v:= ?_) (a':= ?_) bt5_6 rfl rfl (take_ofW HT_.out HW_.out (by kernel_rfl)) (fun _ _ _ h=>h) (Or.inl ⟨by rfl,?_⟩) hHeld ?_ ?_
     rotate_left
     ·rintro w' ⟨s0,s1,s2,s3⟩
      go_simp
      with_reducible rfl
     rotate_left
     ·simp only [Act.put,setIfInBounds_toArray,set_cons_zero,set_cons_succ,i64_w,i32_w]
      rfl
     refine take_ (i:=8) (N:=some 14) (v:= ?_) (a':= ?_) bt5_7 rfl rfl (take_ofW HT_.out HW_.out (by kernel_rfl)) (fun _ _ _ h=>h) (Or.inl ⟨by rfl,?_⟩) hHeld ?_ ?_
     rotate_left
     ·rintro w' ⟨s0,s1,s2,s3⟩
      go_simp
      with_reducible rfl
     rotate_left
     ·simp only [Act.put,setIfInBounds_toArray,set_cons_zero,set_cons_succ,i64_w,i32_w]
      rfl
     refine take_ (i:=12) (N:=some 18) (v:= ?_) (a':= ?_) bt5_8 rfl rfl (take_ofW HT_.out HW_.out (by kernel_rfl)) (fun _ _ _ h=>h) (Or.inl ⟨by rfl,?_⟩) hHeld ?_ ?_
     rotate_left
     ·rintro w' ⟨s0,s1,s2,s3⟩
      go_simp
      with_reducible rfl
     rotate_left
     ·simp only [Act.put,setIfInBounds_toArray,set_cons_zero,set_cons_succ,i64_w,i32_w]
      rfl
     refine one_ (i:=2) (N:=some 8) bt5_9 rfl rfl (one_of HT_.out (by kernel_rfl)) (by decide) (fun K hK=> ?_)
     refine goes_ Tryz.func166 (by kernel_rfl) rfl #[.bool a0_3] (by rfl) rfl rfl (by(try simp only [map_toArray,map_cons,map_nil]);first|done|rfl|(simp only [length_drop,length_take];rfl)) ?_
     with_reducible refine(spec_l3Fix.calls a0_3 t296 _ A4.out).mono ?_
     rintro e w' ⟨rfl,⟨nd,rfl⟩⟩
     refine⟨_,rfl,?_⟩
     refine hK.out _ _ ⟨(z1q BK294.out 0).trans rfl,(z1q BK294.out 1).trans rfl,(z1q BK294.out 2).trans rfl,(z1q BK294.out 3).trans rfl⟩ (fun hHeld=> ?_)
     clear hK K
     refine norm_ (a':= ?_) ?_ ?_
     rotate_left
     ·show Act.put _ (some 8) _=_
      simp only [Act.put,setIfInBounds_toArray,set_cons_zero,set_cons_succ,i64_w,i32_w]
      rfl
     refine one_ (i:=5) (N:=some 11) bt5_10 rfl rfl (one_of HT_.out (by kernel_rfl)) (by decide) (fun K hK=> ?_)
     refine goes_ Tryz.func165 (by kernel_rfl) rfl #[.int .i64 a0_1] (by rfl) rfl rfl (by(try simp only [map_toArray,map_cons,map_nil]);first|done|rfl|(simp only [length_drop,length_take];rfl)) ?_
     with_reducible refine(spec_ColName.calls k a0_1 t297 _ A5.out).mono ?_
     rintro e w15 ⟨rfl,hb⟩
     refine⟨_,rfl,?_⟩
     have n0_:=Aside0.mk (z12q (cy BK294.out) hb)
     have n1_:=Aside0.mk (z5q (ibh HB.out) hb)
     clear BK294
     clear HB
     have BK294:=n0_
     have HB:=n1_
     clear n0_ n1_
     (try clear hb)
     (try clear hb2)
     (try clear hk)
     (try clear hi)
     refine hK.out _ _ ⟨(z1q BK294.out 0).trans rfl,(z1q BK294.out 1).trans rfl,(z1q BK294.out 2).trans rfl,(z1q BK294.out 3).trans rfl⟩ (fun hHeld=> ?_)
     clear hK K
     refine norm_ (a':= ?_) ?_ ?_
     rotate_left
     ·show Act.put _ (some 11) _=_
      simp only [Act.put,setIfInBounds_toArray,set_cons_zero,set_cons_succ,i64_w,i32_w]
      rfl
     refine pure_ (i:=6) (N:=some 12) (v:= ?_) (a':= ?_) bt5_11 rfl rfl (any_of HT_.out (by kernel_rfl)) (fun _ _ _ h=>h) (Or.inl ⟨by rfl,?_⟩) ?_ ?_
     rotate_left
     ·intro w'
      go_simp
      with_reducible rfl
     rotate_left
     ·simp only [Act.put,setIfInBounds_toArray,set_cons_zero,set_cons_succ,i64_w,i32_w]
      rfl
     refine one_ (i:=9) (N:=some 15) bt5_12 rfl rfl (one_of HT_.out (by kernel_rfl)) (by decide) (fun K hK=> ?_)
     refine goes_ Tryz.func166 (by kernel_rfl) rfl #[.bool a0_2] (by rfl) rfl rfl (by(try simp only [map_toArray,map_cons,map_nil]);first|done|rfl|(simp only [length_drop,length_take];rfl)) ?_
     with_reducible refine(spec_l3Fix.calls a0_2 t298 _ A7.out).mono ?_
     rintro e w' ⟨rfl,⟨nd,rfl⟩⟩
     refine⟨_,rfl,?_⟩
     refine hK.out _ _ ⟨(z1q BK294.out 0).trans rfl,(z1q BK294.out 1).trans rfl,(z1q BK294.out 2).trans rfl,(z1q BK294.out 3).trans rfl⟩ (fun hHeld=> ?_)
     clear hK K
     refine norm_ (a':= ?_) ?_ ?_
     rotate_left
     ·show Act.put _ (some 15) _=_
      simp only [Act.put,setIfInBounds_toArray,set_cons_zero,set_cons_succ,i64_w,i32_w]
      rfl
     refine pure_ (i:=10) (N:=some 16) (v:= ?_) (a':= ?_) bt5_13 rfl rfl (any_of HT_.out (by kernel_rfl)) (fun _ _ _ h=>h) (Or.inl ⟨by rfl,?_⟩) ?_ ?_
     rotate_left
     ·intro w'
      go_simp
      with_reducible rfl
     rotate_left
     ·simp only [Act.put,setIfInBounds_toArray,set_cons_zero,set_cons_succ,i64_w,i32_w]
      rfl
     refine one_ (i:=13) (N:=some 19) bt5_14 rfl rfl (one_of HT_.out (by kernel_rfl)) (by decide) (fun K hK=> ?_)
     refine goes_ Tryz.func118 (by kernel_rfl) rfl #[.int .i64 a0_0] (by rfl) rfl rfl (by(try simp only [map_toArray,map_cons,map_nil]);first|done|rfl|(simp only [length_drop,length_take];rfl)) ?_
     with_reducible refine(spec_l1Num.calls a0_0 t299 _ A9.out).mono ?_
     rintro e w16 ⟨rfl,hb⟩
     refine⟨_,rfl,?_⟩
     have n0_:=Aside0.mk (z12q (cy BK294.out) hb)
     have n1_:=Aside0.mk (z5q (ibh HB.out) hb)
     clear BK294
     clear HB
     have BK294:=n0_
     have HB:=n1_
     clear n0_ n1_
     (try clear hb)
     (try clear hb2)
     (try clear hk)
     (try clear hi)
     refine hK.out _ _ ⟨(z1q BK294.out 0).trans rfl,(z1q BK294.out 1).trans rfl,(z1q BK294.out 2).trans rfl,(z1q BK294.out 3).trans rfl⟩ (fun hHeld=> ?_)
     clear hK K
     refine norm_ (a':= ?_) ?_ ?_
     rotate_left
     ·show Act.put _ (some 19) _=_
      simp only [Act.put,setIfInBounds_toArray,set_cons_zero,set_cons_succ,i64_w,i32_w]
      rfl
     refine pure_ (i:=14) (N:=some 20) (v:= ?_) (a':= ?_) bt5_15 rfl rfl (any_of HT_.out (by kernel_rfl)) (fun _ _ _ h=>h) (Or.inl ⟨by rfl,?_⟩) ?_ ?_
     rotate_left
     ·intro w'
      go_simp
      with_reducible rfl
     rotate_left
     ·simp only [Act.put,setIfInBounds_toArray,set_cons_zero,set_cons_succ,i64_w,i32_w]
      rfl
     refine pure_ (i:=15) (N:=some 2) (v:= ?_) (a':= ?_) bt5_16 rfl rfl (any_of HT_.out (by kernel_rfl)) (fun _ _ _ h=>h) (Or.inl ⟨by rfl,?_⟩) ?_ ?_
     rotate_left
     ·intro w'
      go_simp
      with_reducible rfl
     rotate_left
     ·simp only [Act.put,setIfInBounds_toArray,set_cons_zero,set_cons_succ,i64_w,i32_w]
      rfl
     refine done_ (done_of HT_.out (by kernel_rfl)) ?_
     try go_wp2
     go_ret
     exact⟨by first|rfl|(simp [errW_none,errW_some]<;>rfl)|(simp [*,errW_none,errW_some]<;>rfl),by repeat(first|(with_reducible first|exact HB.out|apply z2q|apply z3q|apply z4q|refine z7q ?_ GE294.out)|exact HB.out)⟩
    ·rw [if_neg c10]at H
     exact absurd H (by simp)
   ·rw [if_neg c8]at H
    exact absurd H (by simp)
  ·rw [if_neg c6]at H
   exact absurd H (by simp)
 ·replace c3:=Bool.eq_false_iff.mpr c3
  subst c3
  have H1:(some (⟨#[]⟩:ByteArray))=some r:=by rw [if_neg (show ¬ (false=true)by decide)]at H;exact H
  clear H
  have H:=H1
  clear H1
  obtain rfl:=Option.some.inj H
  go_enter Tryz.func149,Tryz.ntmps149
  go_wp2_with (first|((with_reducible refine z15q (N:=1) rfl ?_);refine z13q ?hg (N:=1) ?hd (cs:=#[.int .i64 a0_0,.int .i64 a0_1,.bool a0_2,.bool a0_3]) (t:=47) ?hr ?_;(case hd=>rfl);(case hg=>rfl);(case hr=>first|(go_simp;done)|(go_simp;rfl));intro gb294 hg w17 hbox hb;have n0_:=Aside0.mk (z5q (ibh HB.out) hb);have n1_:=Aside0.mk (hbox);have n2_:=Aside0.mk ((by rw [hg];exact(z6q (ibh HB.out)):w.heap.size≤gb294));have n3_:=Aside0.mk ((by rw [hg];exact(z6q (ibh HB.out)):w.heap.size≤gb294));clear HB;have HB:=n0_;have BK294:=n1_;have GW294:=n2_;have GE294:=n3_;clear n0_ n1_ n2_ n3_;clear hb hbox hg;obtain⟨hcz18_0,hcz18_1,hcz18_2,hcz18_3,hfz18_0,hfz18_1,hfz18_2,hfz18_3⟩:=cr4 (w:=w17) (g:=gb294) BK294.out)|((with_reducible refine z8q (f:=44) rfl ?_);refine z17q (some 4) rfl rfl Tryz.func44 (by kernel_rfl) rfl #[.agg #[.int .i64 a0_0,.int .i64 a0_1,.bool a0_2,.bool a0_3]] rfl (by(try simp only [map_toArray,map_cons,map_nil]);first|done|rfl|(simp only [length_drop,length_take];rfl)) ?_;(with_reducible refine(spec_GoodRef.calls a0_0 a0_1 a0_2 a0_3 false _ A2.out).mono ?_);rintro e w19 ⟨rfl,hb⟩;refine⟨_,rfl,?_⟩;have n0_:=Aside0.mk (z12q (cy BK294.out) hb);have n1_:=Aside0.mk (z5q (ibh HB.out) hb);clear BK294;clear HB;have BK294:=n0_;have HB:=n1_;clear n0_ n1_;(try clear hb);(try clear hb2);(try clear hk);(try clear hi)))
  go_ret
  exact⟨by first|rfl|(simp [errW_none,errW_some]<;>rfl)|(simp [*,errW_none,errW_some]<;>rfl),by repeat(first|(with_reducible first|exact HB.out|apply z2q|apply z3q|apply z4q|refine z7q ?_ GE294.out)|exact HB.out)⟩



/-! ### spec_ReadRef: function 133 -/

mutual
def spec_ReadRef.j0:Nat→ByteArray→Int→Bool→Int→Int→Bool→Bool→Option (Int×Int×Bool×Bool×Bool)
 |0,_,_,_,_,_,_,_=>none
 |k+1,x0,x5,x17,x302000,x302001,x302002,x302003=>if x17=true then(spec_ReadRef.j1 k x0 (wrap64 (x5+1)) x302000 x302001 x302002 true)else(spec_ReadRef.j1 k x0 x5 x302000 x302001 x302002 x302003)
def spec_ReadRef.j1:Nat→ByteArray→Int→Int→Int→Bool→Bool→Option (Int×Int×Bool×Bool×Bool)
 |0,_,_,_,_,_,_=>none
 |k+1,x0,x5,x302000,x302001,x302002,x302003=>spec_ReadRef.l0 k x0 x5 x5 x302000 x302001 x302002 x302003
def spec_ReadRef.j3:Nat→ByteArray→Int→Int→Int→Int→Bool→Bool→Option (Int×Int×Bool×Bool×Bool)
 |0,_,_,_,_,_,_,_=>none
 |k+1,x0,x5,x6,x302000,x302001,x302002,x302003=>if 0≤x6 then(if x6≤x5 then(if x5≤(x0.size:Int)then((spec_ColNumber.f k (x0.extract (x6:Int).toNat (x5:Int).toNat)).bind fun t302=>(if x5<(x0.size:Int)then(if 0≤x5 then(spec_ReadRef.j4 k x0 x5 ((bt x0 x5)==36) x302000 t302 x302002 x302003)else(none))else(spec_ReadRef.j4 k x0 x5 false x302000 t302 x302002 x302003)))else(none))else(none))else(none)
def spec_ReadRef.j4:Nat→ByteArray→Int→Bool→Int→Int→Bool→Bool→Option (Int×Int×Bool×Bool×Bool)
 |0,_,_,_,_,_,_,_=>none
 |k+1,x0,x5,x55,x302000,x302001,x302002,x302003=>if x55=true then(spec_ReadRef.j5 k x0 (wrap64 (x5+1)) x302000 x302001 true x302003)else(spec_ReadRef.j5 k x0 x5 x302000 x302001 x302002 x302003)
def spec_ReadRef.j5:Nat→ByteArray→Int→Int→Int→Bool→Bool→Option (Int×Int×Bool×Bool×Bool)
 |0,_,_,_,_,_,_=>none
 |k+1,x0,x5,x302000,x302001,x302002,x302003=>if 0≤x5 then(if x5≤(x0.size:Int)then((spec_l2Number.f k (x0.extract (x5:Int).toNat x0.size)).bind fun t303=>((spec_GoodRef.f t303 x302001 x302002 x302003).bind fun t304=>(if t304=true then((spec_RefText.f k t303 x302001 x302002 x302003).bind fun t305=>(if t305.toList=x0.toList then(some (t303,x302001,x302002,x302003,true))else(some (0,0,false,false,false))))else(some (0,0,false,false,false)))))else(none))else(none)
def spec_ReadRef.l0:Nat→ByteArray→Int→Int→Int→Int→Bool→Bool→Option (Int×Int×Bool×Bool×Bool)
 |0,_,_,_,_,_,_,_=>none
 |k+1,x0,x5,x6,x302000,x302001,x302002,x302003=>if x5<(x0.size:Int)then(if 0≤x5 then(if(bt x0 x5)≥65 then(if(bt x0 x5)≤90 then(spec_ReadRef.l0 k x0 (wrap64 (x5+1)) x6 x302000 x302001 x302002 x302003)else(spec_ReadRef.j3 k x0 x5 x6 x302000 x302001 x302002 x302003))else(spec_ReadRef.j3 k x0 x5 x6 x302000 x302001 x302002 x302003))else(none))else(spec_ReadRef.j3 k x0 x5 x6 x302000 x302001 x302002 x302003)
end

def spec_ReadRef.f (k:Nat) (a0:ByteArray):Option (Int×Int×Bool×Bool×Bool):=if 0<(a0.size:Int)then(spec_ReadRef.j0 k a0 0 ((bt a0 0)==36) 0 0 false false)else(spec_ReadRef.j0 k a0 0 false 0 0 false false)

theorem spec_ReadRef.mono_l:∀ k,(∀ y0 y1 y2 y3 y4 y5 y6,LeO (spec_ReadRef.j0 k y0 y1 y2 y3 y4 y5 y6) (spec_ReadRef.j0 (k+1) y0 y1 y2 y3 y4 y5 y6))∧(∀ y0 y1 y2 y3 y4 y5,LeO (spec_ReadRef.j1 k y0 y1 y2 y3 y4 y5) (spec_ReadRef.j1 (k+1) y0 y1 y2 y3 y4 y5))∧(∀ y0 y1 y2 y3 y4 y5 y6,LeO (spec_ReadRef.j3 k y0 y1 y2 y3 y4 y5 y6) (spec_ReadRef.j3 (k+1) y0 y1 y2 y3 y4 y5 y6))∧(∀ y0 y1 y2 y3 y4 y5 y6,LeO (spec_ReadRef.j4 k y0 y1 y2 y3 y4 y5 y6) (spec_ReadRef.j4 (k+1) y0 y1 y2 y3 y4 y5 y6))∧(∀ y0 y1 y2 y3 y4 y5,LeO (spec_ReadRef.j5 k y0 y1 y2 y3 y4 y5) (spec_ReadRef.j5 (k+1) y0 y1 y2 y3 y4 y5))∧(∀ y0 y1 y2 y3 y4 y5 y6,LeO (spec_ReadRef.l0 k y0 y1 y2 y3 y4 y5 y6) (spec_ReadRef.l0 (k+1) y0 y1 y2 y3 y4 y5 y6))
 |0=>⟨fun _ _ _ _ _ _ _ r h=>by simp [spec_ReadRef.j0]at h,fun _ _ _ _ _ _ r h=>by simp [spec_ReadRef.j1]at h,fun _ _ _ _ _ _ _ r h=>by simp [spec_ReadRef.j3]at h,fun _ _ _ _ _ _ _ r h=>by simp [spec_ReadRef.j4]at h,fun _ _ _ _ _ _ r h=>by simp [spec_ReadRef.j5]at h,fun _ _ _ _ _ _ _ r h=>by simp [spec_ReadRef.l0]at h⟩
 |k+1=>by
  obtain⟨ih0,ih1,ih2,ih3,ih4,ih5⟩:=spec_ReadRef.mono_l k
  refine⟨?_,?_,?_,?_,?_,?_⟩
  ·intro y0 y1 y2 y3 y4 y5 y6
   unfold spec_ReadRef.j0
   repeat' first
   |(with_reducible exact ih0 _ _ _ _ _ _ _)
   |(with_reducible exact ih1 _ _ _ _ _ _)
   |(with_reducible exact ih2 _ _ _ _ _ _ _)
   |(with_reducible exact ih3 _ _ _ _ _ _ _)
   |(with_reducible exact ih4 _ _ _ _ _ _)
   |(with_reducible exact ih5 _ _ _ _ _ _ _)
   |(with_reducible exact spec_ColNumber.mono _ _)
   |(with_reducible exact spec_RefText.mono _ _ _ _ _)
   |(with_reducible exact spec_l2Number.mono _ _)
   |(with_reducible exact LeO.refl _)
   |(with_reducible exact LeO.none _)
   |(with_reducible refine LeO.ite ?_ ?_)
   |(with_reducible refine LeO.bind ?_ (fun _=> ?_))
   |exact ih0 _ _ _ _ _ _ _
   |exact ih1 _ _ _ _ _ _
   |exact ih2 _ _ _ _ _ _ _
   |exact ih3 _ _ _ _ _ _ _
   |exact ih4 _ _ _ _ _ _
   |exact ih5 _ _ _ _ _ _ _
   |exact spec_ColNumber.mono _ _
   |exact spec_RefText.mono _ _ _ _ _
   |exact spec_l2Number.mono _ _
   |exact LeO.none _
   |refine LeO.ite ?_ ?_
   |refine LeO.bind ?_ (fun _=> ?_)
  ·intro y0 y1 y2 y3 y4 y5
   unfold spec_ReadRef.j1
   repeat' first
   |(with_reducible exact ih0 _ _ _ _ _ _ _)
   |(with_reducible exact ih1 _ _ _ _ _ _)
   |(with_reducible exact ih2 _ _ _ _ _ _ _)
   |(with_reducible exact ih3 _ _ _ _ _ _ _)
   |(with_reducible exact ih4 _ _ _ _ _ _)
   |(with_reducible exact ih5 _ _ _ _ _ _ _)
   |(with_reducible exact spec_ColNumber.mono _ _)
   |(with_reducible exact spec_RefText.mono _ _ _ _ _)
   |(with_reducible exact spec_l2Number.mono _ _)
   |(with_reducible exact LeO.refl _)
   |(with_reducible exact LeO.none _)
   |(with_reducible refine LeO.ite ?_ ?_)
   |(with_reducible refine LeO.bind ?_ (fun _=> ?_))
   |exact ih0 _ _ _ _ _ _ _
   |exact ih1 _ _ _ _ _ _
   |exact ih2 _ _ _ _ _ _ _
   |exact ih3 _ _ _ _ _ _ _
   |exact ih4 _ _ _ _ _ _
   |exact ih5 _ _ _ _ _ _ _
   |exact spec_ColNumber.mono _ _
   |exact spec_RefText.mono _ _ _ _ _
   |exact spec_l2Number.mono _ _
   |exact LeO.none _
   |refine LeO.ite ?_ ?_
   |refine LeO.bind ?_ (fun _=> ?_)
  ·intro y0 y1 y2 y3 y4 y5 y6
   unfold spec_ReadRef.j3
   repeat' first
   |(with_reducible exact ih0 _ _ _ _ _ _ _)
   |(with_reducible exact ih1 _ _ _ _ _ _)
   |(with_reducible exact ih2 _ _ _ _ _ _ _)
   |(with_reducible exact ih3 _ _ _ _ _ _ _)
   |(with_reducible exact ih4 _ _ _ _ _ _)
   |(with_reducible exact ih5 _ _ _ _ _ _ _)
   |(with_reducible exact spec_ColNumber.mono _ _)
   |(with_reducible exact spec_RefText.mono _ _ _ _ _)
   |(with_reducible exact spec_l2Number.mono _ _)
   |(with_reducible exact LeO.refl _)
   |(with_reducible exact LeO.none _)
   |(with_reducible refine LeO.ite ?_ ?_)
   |(with_reducible refine LeO.bind ?_ (fun _=> ?_))
   |exact ih0 _ _ _ _ _ _ _
   |exact ih1 _ _ _ _ _ _
   |exact ih2 _ _ _ _ _ _ _
   |exact ih3 _ _ _ _ _ _ _
   |exact ih4 _ _ _ _ _ _
   |exact ih5 _ _ _ _ _ _ _
   |exact spec_ColNumber.mono _ _
   |exact spec_RefText.mono _ _ _ _ _
   |exact spec_l2Number.mono _ _
   |exact LeO.none _
   |refine LeO.ite ?_ ?_
   |refine LeO.bind ?_ (fun _=> ?_)
  ·intro y0 y1 y2 y3 y4 y5 y6
   unfold spec_ReadRef.j4
   repeat' first
   |(with_reducible exact ih0 _ _ _ _ _ _ _)
   |(with_reducible exact ih1 _ _ _ _ _ _)
   |(with_reducible exact ih2 _ _ _ _ _ _ _)
   |(with_reducible exact ih3 _ _ _ _ _ _ _)
   |(with_reducible exact ih4 _ _ _ _ _ _)
   |(with_reducible exact ih5 _ _ _ _ _ _ _)
   |(with_reducible exact spec_ColNumber.mono _ _)
   |(with_reducible exact spec_RefText.mono _ _ _ _ _)
   |(with_reducible exact spec_l2Number.mono _ _)
   |(with_reducible exact LeO.refl _)
   |(with_reducible exact LeO.none _)
   |(with_reducible refine LeO.ite ?_ ?_)
   |(with_reducible refine LeO.bind ?_ (fun _=> ?_))
   |exact ih0 _ _ _ _ _ _ _
   |exact ih1 _ _ _ _ _ _
   |exact ih2 _ _ _ _ _ _ _
   |exact ih3 _ _ _ _ _ _ _
   |exact ih4 _ _ _ _ _ _
   |exact ih5 _ _ _ _ _ _ _
   |exact spec_ColNumber.mono _ _
   |exact spec_RefText.mono _ _ _ _ _
   |exact spec_l2Number.mono _ _
   |exact LeO.none _
   |refine LeO.ite ?_ ?_
   |refine LeO.bind ?_ (fun _=> ?_)
  ·intro y0 y1 y2 y3 y4 y5
   unfold spec_ReadRef.j5
   repeat' first
   |(with_reducible exact ih0 _ _ _ _ _ _ _)
   |(with_reducible exact ih1 _ _ _ _ _ _)
   |(with_reducible exact ih2 _ _ _ _ _ _ _)
   |(with_reducible exact ih3 _ _ _ _ _ _ _)
   |(with_reducible exact ih4 _ _ _ _ _ _)
   |(with_reducible exact ih5 _ _ _ _ _ _ _)
   |(with_reducible exact spec_ColNumber.mono _ _)
   |(with_reducible exact spec_RefText.mono _ _ _ _ _)
   |(with_reducible exact spec_l2Number.mono _ _)
   |(with_reducible exact LeO.refl _)
   |(with_reducible exact LeO.none _)
   |(with_reducible refine LeO.ite ?_ ?_)
   |(with_reducible refine LeO.bind ?_ (fun _=> ?_))
   |exact ih0 _ _ _ _ _ _ _
   |exact ih1 _ _ _ _ _ _
   |exact ih2 _ _ _ _ _ _ _
   |exact ih3 _ _ _ _ _ _ _
   |exact ih4 _ _ _ _ _ _
   |exact ih5 _ _ _ _ _ _ _
   |exact spec_ColNumber.mono _ _
   |exact spec_RefText.mono _ _ _ _ _
   |exact spec_l2Number.mono _ _
   |exact LeO.none _
   |refine LeO.ite ?_ ?_
   |refine LeO.bind ?_ (fun _=> ?_)
  ·intro y0 y1 y2 y3 y4 y5 y6
   unfold spec_ReadRef.l0
   repeat' first
   |(with_reducible exact ih0 _ _ _ _ _ _ _)
   |(with_reducible exact ih1 _ _ _ _ _ _)
   |(with_reducible exact ih2 _ _ _ _ _ _ _)
   |(with_reducible exact ih3 _ _ _ _ _ _ _)
   |(with_reducible exact ih4 _ _ _ _ _ _)
   |(with_reducible exact ih5 _ _ _ _ _ _ _)
   |(with_reducible exact spec_ColNumber.mono _ _)
   |(with_reducible exact spec_RefText.mono _ _ _ _ _)
   |(with_reducible exact spec_l2Number.mono _ _)
   |(with_reducible exact LeO.refl _)
   |(with_reducible exact LeO.none _)
   |(with_reducible refine LeO.ite ?_ ?_)
   |(with_reducible refine LeO.bind ?_ (fun _=> ?_))
   |exact ih0 _ _ _ _ _ _ _
   |exact ih1 _ _ _ _ _ _
   |exact ih2 _ _ _ _ _ _ _
   |exact ih3 _ _ _ _ _ _ _
   |exact ih4 _ _ _ _ _ _
   |exact ih5 _ _ _ _ _ _ _
   |exact spec_ColNumber.mono _ _
   |exact spec_RefText.mono _ _ _ _ _
   |exact spec_l2Number.mono _ _
   |exact LeO.none _
   |refine LeO.ite ?_ ?_
   |refine LeO.bind ?_ (fun _=> ?_)

theorem spec_ReadRef.mono:∀ a0 k,LeO (spec_ReadRef.f k a0) (spec_ReadRef.f (k+1) a0):=by
 intro a0 k
 obtain⟨ih0,ih1,ih2,ih3,ih4,ih5⟩:=spec_ReadRef.mono_l k
 unfold spec_ReadRef.f
 repeat' first
   |(with_reducible exact ih0 _ _ _ _ _ _ _)
   |(with_reducible exact ih1 _ _ _ _ _ _)
   |(with_reducible exact ih2 _ _ _ _ _ _ _)
   |(with_reducible exact ih3 _ _ _ _ _ _ _)
   |(with_reducible exact ih4 _ _ _ _ _ _)
   |(with_reducible exact ih5 _ _ _ _ _ _ _)
   |(with_reducible exact spec_ColNumber.mono _ _)
   |(with_reducible exact spec_RefText.mono _ _ _ _ _)
   |(with_reducible exact spec_l2Number.mono _ _)
   |(with_reducible exact LeO.refl _)
   |(with_reducible exact LeO.none _)
   |(with_reducible refine LeO.ite ?_ ?_)
   |(with_reducible refine LeO.bind ?_ (fun _=> ?_))
   |exact ih0 _ _ _ _ _ _ _
   |exact ih1 _ _ _ _ _ _
   |exact ih2 _ _ _ _ _ _ _
   |exact ih3 _ _ _ _ _ _ _
   |exact ih4 _ _ _ _ _ _
   |exact ih5 _ _ _ _ _ _ _
   |exact spec_ColNumber.mono _ _
   |exact spec_RefText.mono _ _ _ _ _
   |exact spec_l2Number.mono _ _
   |exact LeO.none _
   |refine LeO.ite ?_ ?_
   |refine LeO.bind ?_ (fun _=> ?_)

end Go.Proofs.YtegdpgpbdcediaaGreatDoor.PFnExactUsedNames
