/- Functions of the program as Lean functions, and proofs that the Go code comes to their answers: for the law FnExactUsedNames; made out of the print by a program of mine (compact.py). No conditions but each theorem's own. -/
import Derived.Test.YtegdpgpbdcediaaGreatDoorMFnExactUsedNamesa0
import Derived.Test.YtegdpgpbdcediaaGreatDoorMFnExactUsedNamesa1
namespace Go.Proofs.YtegdpgpbdcediaaGreatDoor.PFnExactUsedNames
open List (map_toArray map_cons map_nil length_drop length_take set_cons_zero set_cons_succ setIfInBounds_toArray)
open Go.RowKit Go.Proofs.YtegdpgpbdcediaaGreatDoorW.PrintWords Go.Proofs.YtegdpgpbdcediaaGreatDoorW.PrintLast Go.Proofs.YtegdpgpbdcediaaGreatDoorW.PrintMore
attribute [local go_sem] max2_int min2_int max_two min_two max_three min_three max_four min_four   -- for this text's walks alone
set_option linter.unusedVariables false
set_option linter.unusedSimpArgs false

attribute [local go_sem high] eqA47 eqA65
abbrev bt2_0:Array Bool:=#[false,false,false,false,false,false,false,false,false,false]
abbrev bt2_1:Array Bool:=#[true,false,false,false,false,false,false,false,false,false]
abbrev bt2_2:Array Bool:=#[true,true,false,false,false,false,false,false,false,false]
abbrev bt2_3:Array Bool:=#[true,true,true,false,false,false,false,false,false,false]
abbrev bt2_4:Array Bool:=#[true,true,true,false,true,false,false,false,false,false]
abbrev bt2_5:Array Bool:=#[true,true,true,false,true,true,false,false,false,false]
abbrev bt2_6:Array Bool:=#[true,true,true,false,true,true,true,false,false,false]
abbrev bt2_7:Array Bool:=#[true,true,true,true,true,true,true,false,false,false]
abbrev bt2_8:Array Bool:=#[true,true,true,true,true,true,true,true,false,false]
abbrev bt2_9:Array Bool:=#[true,true,true,true,true,true,true,true,true,false]
abbrev bt2_10:Array Bool:=#[true,true,true,true,true,true,true,true,true,true]
set_option maxHeartbeats 8000000 in
set_option maxRecDepth 100000 in
theorem laws_eqNodeS.calls_p1 (k:Nat) (A0:Option Addr) (c0:Nat) (l0:List (S67)) (A1:Option Addr) (c1:Nat) (l1:List (S67)) (r:Bool) (w:World) (hr0:Kd.C k67 w A0 l0.length l0) (hc0:l0.length≤c0) (hr1:Kd.C k67 w A1 l1.length l1) (hc1:l1.length≤c1) (c3:(l0.length:Int)=(l1.length:Int)) (H:(laws_eqNodeS.l0 k l0 l1 0)=some r):
  Calls Tryz.prog 13 #[.slice A0 l0.length c0,.slice A1 l1.length c1] w fun e w'=>e= .returned (.bool r)∧Below w.heap.size w w':=by
 have hu67:=Tryz.underlying67
 have HR0:=Aside0.mk hr0
 have HC0:=Aside0.mk hc0
 clear hr0 hc0
 have HR1:=Aside0.mk hr1
 have HC1:=Aside0.mk hc1
 clear hr1 hc1
 have HB:=Aside0.mk (Below.refl w.heap.size w)
 have c3b0:((l0.length:Int)==(l1.length:Int))=true:=beq_iff_eq.mpr c3
 have c3b1:((l0.length:Int) !=(l1.length:Int))=false:=bne_eq_false_iff_eq.mpr c3
 have c3b2:(l0.length==l1.length)=true:=by first|simpa using c3|(simp at c3 ⊢;omega)
 clear c3
 have H':=Aside0.mk H
 clear H
 go_enter Tryz.func13,Tryz.ntmps13
 go_wp2
 go_loopg [5] k (fun kq v5 w'=>∃ (x5_1:Int),v5= .int .i64 x5_1∧Aside0 (laws_eqNodeS.l0 kq l0 l1 x5_1=some r)∧Aside0 (kq≤k)∧Aside0 (Below w.heap.size w w'))
 case atStart=>exact⟨(0),(by first|rfl|(simp;done)|(simp [*];done)|(simp;unfold wrap64;omega)),H',⟨Nat.le_refl _⟩,⟨by repeat(first|(with_reducible first|exact HB.out|apply z2q|apply z3q|apply z4q)|exact HB.out)⟩⟩
 case round=>
  clear H'
  try clear c1
  try clear p2
  try clear c3
  try clear c3b0
  try clear c3b1
  try clear c3b2
  obtain⟨x5_1,rfl,HA,HK1,HB⟩:=hrel
  cases gk with
  |zero=>exact absurd HA.out (by simp [laws_eqNodeS.l0])
  |succ k1=>
   have H:=HA.out
   clear HA
   simp only [laws_eqNodeS.l0]at H
   by_cases c4:x5_1<(l0.length:Int)
   ·rw [if_pos c4]at H
    have c4b0:decide (x5_1<(l0.length:Int))=true:=decide_eq_true c4
    clear c4
    by_cases c5:0≤x5_1
    ·rw [if_pos c5]at H
     have c5b0:decide (0≤x5_1)=true:=decide_eq_true c5
     clear c5
     by_cases c6:x5_1<(l1.length:Int)
     ·rw [if_pos c6]at H
      have c6b0:decide (x5_1<(l1.length:Int))=true:=decide_eq_true c6
      clear c6
      replace H:=Option.bind_eq_some_iff.mp H
      obtain⟨t154,A70,H⟩:=H
      replace H:(if t154=true then(laws_eqNodeS.l0 k1 l0 l1 (wrap64 (x5_1+1)))else(some false))=some r:=H
      have A7:=Aside0.mk A70
      clear A70
      by_cases c8:t154=true
      ·subst c8
       have H1:(laws_eqNodeS.l0 k1 l0 l1 (wrap64 (x5_1+1)))=some r:=by rw [if_pos rfl]at H;exact H
       clear H
       have H:=H1
       clear H1
       have H':=Aside0.mk H
       clear H
       try go_wp2
       have n0_:=Aside0.mk (z4q HB.out)
       clear HB
       have HB:=n0_
       clear n0_
       have p152:0≤(x5_1:Int):=of_decide_eq_true (by first|(with_reducible assumption)|assumption)
       have q152:x5_1<(l0.length:Int):=of_decide_eq_true (by first|(with_reducible assumption)|assumption)
       obtain⟨ad152,e152,hx152_0,hx152_1,hx152_2,hx152_3,hx152_4,hx152_5,hx152_6,hx152_7,hx152_8,hx152_9,hx152_10,hx152_11,hx152_12,hx152_13⟩:=at_T67 HR0.out x5_1 p152 q152
       have hw152_13:=hx152_13
       have hw152_12:=hx152_12
       have hw152_11:=hx152_11
       have hw152_10:=hx152_10
       have hw152_9:=hx152_9
       have hw152_8:=hx152_8
       have hw152_7:=hx152_7
       have hw152_6:=hx152_6
       have hw152_5:=hx152_5
       have hw152_4:=hx152_4
       have hw152_3:=hx152_3
       have hw152_2:=hx152_2
       have hw152_1:=hx152_1
       have hw152_0:=hx152_0
       cases e152
       replace hx152_0:=(hbc HB.out hx152_0).trans hx152_0
       replace hx152_1:=(hbc HB.out hx152_1).trans hx152_1
       replace hx152_2:=(hbc HB.out hx152_2).trans hx152_2
       replace hx152_3:=(hbc HB.out hx152_3).trans hx152_3
       replace hx152_4:=(hbc HB.out hx152_4).trans hx152_4
       replace hx152_5:=(hbc HB.out hx152_5).trans hx152_5
       replace hx152_6:=(hbc HB.out hx152_6).trans hx152_6
       replace hx152_7:=(hbc HB.out hx152_7).trans hx152_7
       replace hx152_8:=(hbc HB.out hx152_8).trans hx152_8
       replace hx152_9:=(hbc HB.out hx152_9).trans hx152_9
       replace hx152_10:=(hbc HB.out hx152_10).trans hx152_10
       replace hx152_11:=(hbc HB.out hx152_11).trans hx152_11
       replace hx152_12:=(hbc HB.out hx152_12).trans hx152_12
       replace hx152_13:=(hbc HB.out hx152_13).trans hx152_13
       replace p152:=eq_true p152
       replace q152:=eq_true q152
       have p153:0≤(x5_1:Int):=of_decide_eq_true (by first|(with_reducible assumption)|assumption)
       have q153:x5_1<(l1.length:Int):=of_decide_eq_true (by first|(with_reducible assumption)|assumption)
       obtain⟨ad153,e153,hx153_0,hx153_1,hx153_2,hx153_3,hx153_4,hx153_5,hx153_6,hx153_7,hx153_8,hx153_9,hx153_10,hx153_11,hx153_12,hx153_13⟩:=at_T67 HR1.out x5_1 p153 q153
       have hw153_13:=hx153_13
       have hw153_12:=hx153_12
       have hw153_11:=hx153_11
       have hw153_10:=hx153_10
       have hw153_9:=hx153_9
       have hw153_8:=hx153_8
       have hw153_7:=hx153_7
       have hw153_6:=hx153_6
       have hw153_5:=hx153_5
       have hw153_4:=hx153_4
       have hw153_3:=hx153_3
       have hw153_2:=hx153_2
       have hw153_1:=hx153_1
       have hw153_0:=hx153_0
       cases e153
       replace hx153_0:=(hbc HB.out hx153_0).trans hx153_0
       replace hx153_1:=(hbc HB.out hx153_1).trans hx153_1
       replace hx153_2:=(hbc HB.out hx153_2).trans hx153_2
       replace hx153_3:=(hbc HB.out hx153_3).trans hx153_3
       replace hx153_4:=(hbc HB.out hx153_4).trans hx153_4
       replace hx153_5:=(hbc HB.out hx153_5).trans hx153_5
       replace hx153_6:=(hbc HB.out hx153_6).trans hx153_6
       replace hx153_7:=(hbc HB.out hx153_7).trans hx153_7
       replace hx153_8:=(hbc HB.out hx153_8).trans hx153_8
       replace hx153_9:=(hbc HB.out hx153_9).trans hx153_9
       replace hx153_10:=(hbc HB.out hx153_10).trans hx153_10
       replace hx153_11:=(hbc HB.out hx153_11).trans hx153_11
       replace hx153_12:=(hbc HB.out hx153_12).trans hx153_12
       replace hx153_13:=(hbc HB.out hx153_13).trans hx153_13
       replace p153:=eq_true p153
       replace q153:=eq_true q153
       refine start_ (n:=10) (S:=fun w'=>w'.cell? (ad152.add ((x5_1).toNat*14))=some (.int .i64 ((rd_T67 l0 x5_1).f0))∧w'.cell? ⟨(ad152.add ((x5_1).toNat*14)).block,(ad152.add ((x5_1).toNat*14)).off+1,none⟩=some (.string ((rd_T67 l0 x5_1).f1))∧w'.cell? ⟨(ad152.add ((x5_1).toNat*14)).block,(ad152.add ((x5_1).toNat*14)).off+2,none⟩=some (.bool ((rd_T67 l0 x5_1).f2.f0))∧w'.cell? ⟨(ad152.add ((x5_1).toNat*14)).block,(ad152.add ((x5_1).toNat*14)).off+3,none⟩=some (.int .i64 ((rd_T67 l0 x5_1).f2.f1))∧w'.cell? ⟨(ad152.add ((x5_1).toNat*14)).block,(ad152.add ((x5_1).toNat*14)).off+4,none⟩=some (.int .i64 ((rd_T67 l0 x5_1).f2.f2))∧w'.cell? ⟨(ad152.add ((x5_1).toNat*14)).block,(ad152.add ((x5_1).toNat*14)).off+5,none⟩=some (.int .i64 ((rd_T67 l0 x5_1).f3.f0))∧w'.cell? ⟨(ad152.add ((x5_1).toNat*14)).block,(ad152.add ((x5_1).toNat*14)).off+6,none⟩=some (.int .i64 ((rd_T67 l0 x5_1).f3.f1))∧w'.cell? ⟨(ad152.add ((x5_1).toNat*14)).block,(ad152.add ((x5_1).toNat*14)).off+7,none⟩=some (.bool ((rd_T67 l0 x5_1).f3.f2))∧w'.cell? ⟨(ad152.add ((x5_1).toNat*14)).block,(ad152.add ((x5_1).toNat*14)).off+8,none⟩=some (.bool ((rd_T67 l0 x5_1).f3.f3))∧w'.cell? ⟨(ad152.add ((x5_1).toNat*14)).block,(ad152.add ((x5_1).toNat*14)).off+9,none⟩=some (.int .i64 ((rd_T67 l0 x5_1).f4.f0))∧w'.cell? ⟨(ad152.add ((x5_1).toNat*14)).block,(ad152.add ((x5_1).toNat*14)).off+10,none⟩=some (.int .i64 ((rd_T67 l0 x5_1).f4.f1))∧w'.cell? ⟨(ad152.add ((x5_1).toNat*14)).block,(ad152.add ((x5_1).toNat*14)).off+11,none⟩=some (.bool ((rd_T67 l0 x5_1).f4.f2))∧w'.cell? ⟨(ad152.add ((x5_1).toNat*14)).block,(ad152.add ((x5_1).toNat*14)).off+12,none⟩=some (.bool ((rd_T67 l0 x5_1).f4.f3))∧w'.cell? ⟨(ad152.add ((x5_1).toNat*14)).block,(ad152.add ((x5_1).toNat*14)).off+13,none⟩=some (.int .i64 ((rd_T67 l0 x5_1).f5))∧w'.cell? (ad153.add ((x5_1).toNat*14))=some (.int .i64 ((rd_T67 l1 x5_1).f0))∧w'.cell? ⟨(ad153.add ((x5_1).toNat*14)).block,(ad153.add ((x5_1).toNat*14)).off+1,none⟩=some (.string ((rd_T67 l1 x5_1).f1))∧w'.cell? ⟨(ad153.add ((x5_1).toNat*14)).block,(ad153.add ((x5_1).toNat*14)).off+2,none⟩=some (.bool ((rd_T67 l1 x5_1).f2.f0))∧w'.cell? ⟨(ad153.add ((x5_1).toNat*14)).block,(ad153.add ((x5_1).toNat*14)).off+3,none⟩=some (.int .i64 ((rd_T67 l1 x5_1).f2.f1))∧w'.cell? ⟨(ad153.add ((x5_1).toNat*14)).block,(ad153.add ((x5_1).toNat*14)).off+4,none⟩=some (.int .i64 ((rd_T67 l1 x5_1).f2.f2))∧w'.cell? ⟨(ad153.add ((x5_1).toNat*14)).block,(ad153.add ((x5_1).toNat*14)).off+5,none⟩=some (.int .i64 ((rd_T67 l1 x5_1).f3.f0))∧w'.cell? ⟨(ad153.add ((x5_1).toNat*14)).block,(ad153.add ((x5_1).toNat*14)).off+6,none⟩=some (.int .i64 ((rd_T67 l1 x5_1).f3.f1))∧w'.cell? ⟨(ad153.add ((x5_1).toNat*14)).block,(ad153.add ((x5_1).toNat*14)).off+7,none⟩=some (.bool ((rd_T67 l1 x5_1).f3.f2))∧w'.cell? ⟨(ad153.add ((x5_1).toNat*14)).block,(ad153.add ((x5_1).toNat*14)).off+8,none⟩=some (.bool ((rd_T67 l1 x5_1).f3.f3))∧w'.cell? ⟨(ad153.add ((x5_1).toNat*14)).block,(ad153.add ((x5_1).toNat*14)).off+9,none⟩=some (.int .i64 ((rd_T67 l1 x5_1).f4.f0))∧w'.cell? ⟨(ad153.add ((x5_1).toNat*14)).block,(ad153.add ((x5_1).toNat*14)).off+10,none⟩=some (.int .i64 ((rd_T67 l1 x5_1).f4.f1))∧w'.cell? ⟨(ad153.add ((x5_1).toNat*14)).block,(ad153.add ((x5_1).toNat*14)).off+11,none⟩=some (.bool ((rd_T67 l1 x5_1).f4.f2))∧w'.cell? ⟨(ad153.add ((x5_1).toNat*14)).block,(ad153.add ((x5_1).toNat*14)).off+12,none⟩=some (.bool ((rd_T67 l1 x5_1).f4.f3))∧w'.cell? ⟨(ad153.add ((x5_1).toNat*14)).block,(ad153.add ((x5_1).toNat*14)).off+13,none⟩=some (.int .i64 ((rd_T67 l1 x5_1).f5))) (ds:= []) bt2_0 (by kernel_rfl) rfl rfl ⟨(hbt HB.out hw152_0),(hbt HB.out hw152_1),(hbt HB.out hw152_2),(hbt HB.out hw152_3),(hbt HB.out hw152_4),(hbt HB.out hw152_5),(hbt HB.out hw152_6),(hbt HB.out hw152_7),(hbt HB.out hw152_8),(hbt HB.out hw152_9),(hbt HB.out hw152_10),(hbt HB.out hw152_11),(hbt HB.out hw152_12),(hbt HB.out hw152_13),(hbt HB.out hw153_0),(hbt HB.out hw153_1),(hbt HB.out hw153_2),(hbt HB.out hw153_3),(hbt HB.out hw153_4),(hbt HB.out hw153_5),(hbt HB.out hw153_6),(hbt HB.out hw153_7),(hbt HB.out hw153_8),(hbt HB.out hw153_9),(hbt HB.out hw153_10),(hbt HB.out hw153_11),(hbt HB.out hw153_12),(hbt HB.out hw153_13)⟩ (fun hHeld=> ?_);refine with_tabW laws_eqNodeS.tab6 laws_eqNodeS.bits6 (fun HT_ HW_=> ?_)
       generalize wr.drew=w9 at HB hx152_0 hx152_1 hx152_10 hx152_11 hx152_12 hx152_13 hx152_2 hx152_3 hx152_4 hx152_5 hx152_6 hx152_7 hx152_8 hx152_9 hx153_0 hx153_1 hx153_10 hx153_11 hx153_12 hx153_13 hx153_2 hx153_3 hx153_4 hx153_5 hx153_6 hx153_7 hx153_8 hx153_9 hHeld ⊢
       refine pure_ (i:=0) (N:=some 17) (v:= ?_) (a':= ?_) bt2_1 rfl rfl (any_of HT_.out (by kernel_rfl)) (fun _ _ _ h=>h) (Or.inl ⟨by rfl,?_⟩) ?_ ?_
       rotate_left
       ·intro w'
        go_simp
        with_reducible rfl
       rotate_left
       ·simp only [Act.put,setIfInBounds_toArray,set_cons_zero,set_cons_succ,i64_w,i32_w]
        rfl
       refine pure_ (i:=1) (N:=some 18) (v:= ?_) (a':= ?_) bt2_2 rfl rfl (any_of HT_.out (by kernel_rfl)) (fun _ _ _ h=>h) (Or.inl ⟨by rfl,?_⟩) ?_ ?_
       rotate_left
       ·intro w'
        go_simp
        with_reducible rfl
       rotate_left
       ·simp only [Act.put,setIfInBounds_toArray,set_cons_zero,set_cons_succ,i64_w,i32_w]
        rfl
       refine pure_ (i:=2) (N:=some 19) (v:= ?_) (a':= ?_) bt2_3 rfl rfl (any_of HT_.out (by kernel_rfl)) (fun _ _ _ h=>h) (Or.inl ⟨by rfl,?_⟩) ?_ ?_
       rotate_left
       ·intro w'
        go_simp
        with_reducible rfl
       rotate_left
       ·simp only [Act.put,setIfInBounds_toArray,set_cons_zero,set_cons_succ,i64_w,i32_w]
        rfl
       refine pure_ (i:=4) (N:=some 21) (v:= ?_) (a':= ?_) bt2_4 rfl rfl (any_of HT_.out (by kernel_rfl)) (fun _ _ _ h=>h) (Or.inl ⟨by rfl,?_⟩) ?_ ?_
       rotate_left
       ·intro w'
        go_simp
        with_reducible rfl
       rotate_left
       ·simp only [Act.put,setIfInBounds_toArray,set_cons_zero,set_cons_succ,i64_w,i32_w]
        rfl
       refine pure_ (i:=5) (N:=some 22) (v:= ?_) (a':= ?_) bt2_5 rfl rfl (any_of HT_.out (by kernel_rfl)) (fun _ _ _ h=>h) (Or.inl ⟨by rfl,?_⟩) ?_ ?_
       rotate_left
       ·intro w'
        go_simp
        with_reducible rfl
       rotate_left
       ·simp only [Act.put,setIfInBounds_toArray,set_cons_zero,set_cons_succ,i64_w,i32_w]
        rfl
       refine pure_ (i:=6) (N:=some 23) (v:= ?_) (a':= ?_) bt2_6 rfl rfl (any_of HT_.out (by kernel_rfl)) (fun _ _ _ h=>h) (Or.inl ⟨by rfl,?_⟩) ?_ ?_
       rotate_left
       ·intro w'
        go_simp
        with_reducible rfl
       rotate_left
       ·simp only [Act.put,setIfInBounds_toArray,set_cons_zero,set_cons_succ,i64_w,i32_w]
        rfl
       refine take_ (i:=3) (N:=some 20) (v:= ?_) (a':= ?_) bt2_7 rfl rfl (take_ofW HT_.out HW_.out (by kernel_rfl)) (fun _ _ _ h=>h) (Or.inl ⟨by rfl,?_⟩) hHeld ?_ ?_
       rotate_left
       ·rintro w' ⟨s0,s1,s2,s3,s4,s5,s6,s7,s8,s9,s10,s11,s12,s13,s14,s15,s16,s17,s18,s19,s20,s21,s22,s23,s24,s25,s26,s27⟩
        go_simp
        with_reducible rfl
       rotate_left
       ·simp only [Act.put,setIfInBounds_toArray,set_cons_zero,set_cons_succ,i64_w,i32_w]
        rfl
       refine take_ (i:=7) (N:=some 24) (v:= ?_) (a':= ?_) bt2_8 rfl rfl (take_ofW HT_.out HW_.out (by kernel_rfl)) (fun _ _ _ h=>h) (Or.inl ⟨by rfl,?_⟩) hHeld ?_ ?_
       rotate_left
       ·rintro w' ⟨s0,s1,s2,s3,s4,s5,s6,s7,s8,s9,s10,s11,s12,s13,s14,s15,s16,s17,s18,s19,s20,s21,s22,s23,s24,s25,s26,s27⟩
        go_simp
        with_reducible rfl
       rotate_left
       ·simp only [Act.put,setIfInBounds_toArray,set_cons_zero,set_cons_succ,i64_w,i32_w]
        rfl
       refine one_ (i:=8) (N:=some 25) bt2_9 rfl rfl (one_of HT_.out (by kernel_rfl)) (by decide) (fun K hK=> ?_)
       refine goes_ Tryz.func38 (by kernel_rfl) rfl #[.agg #[.int .i64 ((rd_T67 l0 x5_1).f0),.string ((rd_T67 l0 x5_1).f1),.bool ((rd_T67 l0 x5_1).f2.f0),.int .i64 ((rd_T67 l0 x5_1).f2.f1),.int .i64 ((rd_T67 l0 x5_1).f2.f2),.int .i64 ((rd_T67 l0 x5_1).f3.f0),.int .i64 ((rd_T67 l0 x5_1).f3.f1),.bool ((rd_T67 l0 x5_1).f3.f2),.bool ((rd_T67 l0 x5_1).f3.f3),.int .i64 ((rd_T67 l0 x5_1).f4.f0),.int .i64 ((rd_T67 l0 x5_1).f4.f1),.bool ((rd_T67 l0 x5_1).f4.f2),.bool ((rd_T67 l0 x5_1).f4.f3),.int .i64 ((rd_T67 l0 x5_1).f5)],.agg #[.int .i64 ((rd_T67 l1 x5_1).f0),.string ((rd_T67 l1 x5_1).f1),.bool ((rd_T67 l1 x5_1).f2.f0),.int .i64 ((rd_T67 l1 x5_1).f2.f1),.int .i64 ((rd_T67 l1 x5_1).f2.f2),.int .i64 ((rd_T67 l1 x5_1).f3.f0),.int .i64 ((rd_T67 l1 x5_1).f3.f1),.bool ((rd_T67 l1 x5_1).f3.f2),.bool ((rd_T67 l1 x5_1).f3.f3),.int .i64 ((rd_T67 l1 x5_1).f4.f0),.int .i64 ((rd_T67 l1 x5_1).f4.f1),.bool ((rd_T67 l1 x5_1).f4.f2),.bool ((rd_T67 l1 x5_1).f4.f3),.int .i64 ((rd_T67 l1 x5_1).f5)]] (by rfl) rfl rfl (by(try simp only [map_toArray,map_cons,map_nil]);first|done|rfl|(simp only [length_drop,length_take];rfl)) ?_
       with_reducible refine(laws_eqNode.calls ((rd_T67 l0 x5_1).f0) ((rd_T67 l0 x5_1).f1) ((rd_T67 l0 x5_1).f2.f0) ((rd_T67 l0 x5_1).f2.f1) ((rd_T67 l0 x5_1).f2.f2) ((rd_T67 l0 x5_1).f3.f0) ((rd_T67 l0 x5_1).f3.f1) ((rd_T67 l0 x5_1).f3.f2) ((rd_T67 l0 x5_1).f3.f3) ((rd_T67 l0 x5_1).f4.f0) ((rd_T67 l0 x5_1).f4.f1) ((rd_T67 l0 x5_1).f4.f2) ((rd_T67 l0 x5_1).f4.f3) ((rd_T67 l0 x5_1).f5) ((rd_T67 l1 x5_1).f0) ((rd_T67 l1 x5_1).f1) ((rd_T67 l1 x5_1).f2.f0) ((rd_T67 l1 x5_1).f2.f1) ((rd_T67 l1 x5_1).f2.f2) ((rd_T67 l1 x5_1).f3.f0) ((rd_T67 l1 x5_1).f3.f1) ((rd_T67 l1 x5_1).f3.f2) ((rd_T67 l1 x5_1).f3.f3) ((rd_T67 l1 x5_1).f4.f0) ((rd_T67 l1 x5_1).f4.f1) ((rd_T67 l1 x5_1).f4.f2) ((rd_T67 l1 x5_1).f4.f3) ((rd_T67 l1 x5_1).f5) true _ A7.out).mono ?_
       rintro e w10 ⟨rfl,hb⟩
       refine⟨_,rfl,?_⟩
       have n0_:=Aside0.mk (z5q (ibh HB.out) hb)
       clear HB
       have HB:=n0_
       clear n0_
       (try clear hb)
       (try clear hb2)
       (try clear hk)
       (try clear hi)
       refine hK.out _ _ ⟨(hbt HB.out hw152_0),(hbt HB.out hw152_1),(hbt HB.out hw152_2),(hbt HB.out hw152_3),(hbt HB.out hw152_4),(hbt HB.out hw152_5),(hbt HB.out hw152_6),(hbt HB.out hw152_7),(hbt HB.out hw152_8),(hbt HB.out hw152_9),(hbt HB.out hw152_10),(hbt HB.out hw152_11),(hbt HB.out hw152_12),(hbt HB.out hw152_13),(hbt HB.out hw153_0),(hbt HB.out hw153_1),(hbt HB.out hw153_2),(hbt HB.out hw153_3),(hbt HB.out hw153_4),(hbt HB.out hw153_5),(hbt HB.out hw153_6),(hbt HB.out hw153_7),(hbt HB.out hw153_8),(hbt HB.out hw153_9),(hbt HB.out hw153_10),(hbt HB.out hw153_11),(hbt HB.out hw153_12),(hbt HB.out hw153_13)⟩ (fun hHeld=> ?_)
       clear hK K
       refine norm_ (a':= ?_) ?_ ?_
       rotate_left
       ·show Act.put _ (some 25) _=_
        simp only [Act.put,setIfInBounds_toArray,set_cons_zero,set_cons_succ,i64_w,i32_w]
        rfl
       refine pure_ (i:=9) (N:=some 26) (v:= ?_) (a':= ?_) bt2_10 rfl rfl (any_of HT_.out (by kernel_rfl)) (fun _ _ _ h=>h) (Or.inl ⟨by rfl,?_⟩) ?_ ?_
       rotate_left
       ·intro w'
        go_simp
        with_reducible rfl
       rotate_left
       ·simp only [Act.put,setIfInBounds_toArray,set_cons_zero,set_cons_succ,i64_w,i32_w]
        rfl
       refine done_ (done_of HT_.out (by kernel_rfl)) ?_
       try go_wp2
       go_roundg k1
       case measure=>have:=HK1.out;omega
       case rel=>exact⟨(wrap64 (x5_1+1)),(by first|rfl|(simp;done)|(simp [*];done)|(simp;unfold wrap64;omega)),H',⟨by have:=HK1.out;omega⟩,⟨by repeat(first|(with_reducible first|exact HB.out|apply z2q|apply z3q|apply z4q)|exact HB.out)⟩⟩
      ·replace c8:=Bool.eq_false_iff.mpr c8
       subst c8
       have H1:(some false)=some r:=by rw [if_neg (show ¬ (false=true)by decide)]at H;exact H
       clear H
       have H:=H1
       clear H1
       obtain rfl:=Option.some.inj H
       try go_wp2
       have n0_:=Aside0.mk (z4q HB.out)
       clear HB
       have HB:=n0_
       clear n0_
       have p152:0≤(x5_1:Int):=of_decide_eq_true (by first|(with_reducible assumption)|assumption)
       have q152:x5_1<(l0.length:Int):=of_decide_eq_true (by first|(with_reducible assumption)|assumption)
       obtain⟨ad152,e152,hx152_0,hx152_1,hx152_2,hx152_3,hx152_4,hx152_5,hx152_6,hx152_7,hx152_8,hx152_9,hx152_10,hx152_11,hx152_12,hx152_13⟩:=at_T67 HR0.out x5_1 p152 q152
       have hw152_13:=hx152_13
       have hw152_12:=hx152_12
       have hw152_11:=hx152_11
       have hw152_10:=hx152_10
       have hw152_9:=hx152_9
       have hw152_8:=hx152_8
       have hw152_7:=hx152_7
       have hw152_6:=hx152_6
       have hw152_5:=hx152_5
       have hw152_4:=hx152_4
       have hw152_3:=hx152_3
       have hw152_2:=hx152_2
       have hw152_1:=hx152_1
       have hw152_0:=hx152_0
       cases e152
       replace hx152_0:=(hbc HB.out hx152_0).trans hx152_0
       replace hx152_1:=(hbc HB.out hx152_1).trans hx152_1
       replace hx152_2:=(hbc HB.out hx152_2).trans hx152_2
       replace hx152_3:=(hbc HB.out hx152_3).trans hx152_3
       replace hx152_4:=(hbc HB.out hx152_4).trans hx152_4
       replace hx152_5:=(hbc HB.out hx152_5).trans hx152_5
       replace hx152_6:=(hbc HB.out hx152_6).trans hx152_6
       replace hx152_7:=(hbc HB.out hx152_7).trans hx152_7
       replace hx152_8:=(hbc HB.out hx152_8).trans hx152_8
       replace hx152_9:=(hbc HB.out hx152_9).trans hx152_9
       replace hx152_10:=(hbc HB.out hx152_10).trans hx152_10
       replace hx152_11:=(hbc HB.out hx152_11).trans hx152_11
       replace hx152_12:=(hbc HB.out hx152_12).trans hx152_12
       replace hx152_13:=(hbc HB.out hx152_13).trans hx152_13
       replace p152:=eq_true p152
       replace q152:=eq_true q152
       have p153:0≤(x5_1:Int):=of_decide_eq_true (by first|(with_reducible assumption)|assumption)
       have q153:x5_1<(l1.length:Int):=of_decide_eq_true (by first|(with_reducible assumption)|assumption)
       obtain⟨ad153,e153,hx153_0,hx153_1,hx153_2,hx153_3,hx153_4,hx153_5,hx153_6,hx153_7,hx153_8,hx153_9,hx153_10,hx153_11,hx153_12,hx153_13⟩:=at_T67 HR1.out x5_1 p153 q153
       have hw153_13:=hx153_13
       have hw153_12:=hx153_12
       have hw153_11:=hx153_11
       have hw153_10:=hx153_10
       have hw153_9:=hx153_9
       have hw153_8:=hx153_8
       have hw153_7:=hx153_7
       have hw153_6:=hx153_6
       have hw153_5:=hx153_5
       have hw153_4:=hx153_4
       have hw153_3:=hx153_3
       have hw153_2:=hx153_2
       have hw153_1:=hx153_1
       have hw153_0:=hx153_0
       cases e153
       replace hx153_0:=(hbc HB.out hx153_0).trans hx153_0
       replace hx153_1:=(hbc HB.out hx153_1).trans hx153_1
       replace hx153_2:=(hbc HB.out hx153_2).trans hx153_2
       replace hx153_3:=(hbc HB.out hx153_3).trans hx153_3
       replace hx153_4:=(hbc HB.out hx153_4).trans hx153_4
       replace hx153_5:=(hbc HB.out hx153_5).trans hx153_5
       replace hx153_6:=(hbc HB.out hx153_6).trans hx153_6
       replace hx153_7:=(hbc HB.out hx153_7).trans hx153_7
       replace hx153_8:=(hbc HB.out hx153_8).trans hx153_8
       replace hx153_9:=(hbc HB.out hx153_9).trans hx153_9
       replace hx153_10:=(hbc HB.out hx153_10).trans hx153_10
       replace hx153_11:=(hbc HB.out hx153_11).trans hx153_11
       replace hx153_12:=(hbc HB.out hx153_12).trans hx153_12
       replace hx153_13:=(hbc HB.out hx153_13).trans hx153_13
       replace p153:=eq_true p153
       replace q153:=eq_true q153
       refine start_ (n:=10) (S:=fun w'=>w'.cell? (ad152.add ((x5_1).toNat*14))=some (.int .i64 ((rd_T67 l0 x5_1).f0))∧w'.cell? ⟨(ad152.add ((x5_1).toNat*14)).block,(ad152.add ((x5_1).toNat*14)).off+1,none⟩=some (.string ((rd_T67 l0 x5_1).f1))∧w'.cell? ⟨(ad152.add ((x5_1).toNat*14)).block,(ad152.add ((x5_1).toNat*14)).off+2,none⟩=some (.bool ((rd_T67 l0 x5_1).f2.f0))∧w'.cell? ⟨(ad152.add ((x5_1).toNat*14)).block,(ad152.add ((x5_1).toNat*14)).off+3,none⟩=some (.int .i64 ((rd_T67 l0 x5_1).f2.f1))∧w'.cell? ⟨(ad152.add ((x5_1).toNat*14)).block,(ad152.add ((x5_1).toNat*14)).off+4,none⟩=some (.int .i64 ((rd_T67 l0 x5_1).f2.f2))∧w'.cell? ⟨(ad152.add ((x5_1).toNat*14)).block,(ad152.add ((x5_1).toNat*14)).off+5,none⟩=some (.int .i64 ((rd_T67 l0 x5_1).f3.f0))∧w'.cell? ⟨(ad152.add ((x5_1).toNat*14)).block,(ad152.add ((x5_1).toNat*14)).off+6,none⟩=some (.int .i64 ((rd_T67 l0 x5_1).f3.f1))∧w'.cell? ⟨(ad152.add ((x5_1).toNat*14)).block,(ad152.add ((x5_1).toNat*14)).off+7,none⟩=some (.bool ((rd_T67 l0 x5_1).f3.f2))∧w'.cell? ⟨(ad152.add ((x5_1).toNat*14)).block,(ad152.add ((x5_1).toNat*14)).off+8,none⟩=some (.bool ((rd_T67 l0 x5_1).f3.f3))∧w'.cell? ⟨(ad152.add ((x5_1).toNat*14)).block,(ad152.add ((x5_1).toNat*14)).off+9,none⟩=some (.int .i64 ((rd_T67 l0 x5_1).f4.f0))∧w'.cell? ⟨(ad152.add ((x5_1).toNat*14)).block,(ad152.add ((x5_1).toNat*14)).off+10,none⟩=some (.int .i64 ((rd_T67 l0 x5_1).f4.f1))∧w'.cell? ⟨(ad152.add ((x5_1).toNat*14)).block,(ad152.add ((x5_1).toNat*14)).off+11,none⟩=some (.bool ((rd_T67 l0 x5_1).f4.f2))∧w'.cell? ⟨(ad152.add ((x5_1).toNat*14)).block,(ad152.add ((x5_1).toNat*14)).off+12,none⟩=some (.bool ((rd_T67 l0 x5_1).f4.f3))∧w'.cell? ⟨(ad152.add ((x5_1).toNat*14)).block,(ad152.add ((x5_1).toNat*14)).off+13,none⟩=some (.int .i64 ((rd_T67 l0 x5_1).f5))∧w'.cell? (ad153.add ((x5_1).toNat*14))=some (.int .i64 ((rd_T67 l1 x5_1).f0))∧w'.cell? ⟨(ad153.add ((x5_1).toNat*14)).block,(ad153.add ((x5_1).toNat*14)).off+1,none⟩=some (.string ((rd_T67 l1 x5_1).f1))∧w'.cell? ⟨(ad153.add ((x5_1).toNat*14)).block,(ad153.add ((x5_1).toNat*14)).off+2,none⟩=some (.bool ((rd_T67 l1 x5_1).f2.f0))∧w'.cell? ⟨(ad153.add ((x5_1).toNat*14)).block,(ad153.add ((x5_1).toNat*14)).off+3,none⟩=some (.int .i64 ((rd_T67 l1 x5_1).f2.f1))∧w'.cell? ⟨(ad153.add ((x5_1).toNat*14)).block,(ad153.add ((x5_1).toNat*14)).off+4,none⟩=some (.int .i64 ((rd_T67 l1 x5_1).f2.f2))∧w'.cell? ⟨(ad153.add ((x5_1).toNat*14)).block,(ad153.add ((x5_1).toNat*14)).off+5,none⟩=some (.int .i64 ((rd_T67 l1 x5_1).f3.f0))∧w'.cell? ⟨(ad153.add ((x5_1).toNat*14)).block,(ad153.add ((x5_1).toNat*14)).off+6,none⟩=some (.int .i64 ((rd_T67 l1 x5_1).f3.f1))∧w'.cell? ⟨(ad153.add ((x5_1).toNat*14)).block,(ad153.add ((x5_1).toNat*14)).off+7,none⟩=some (.bool ((rd_T67 l1 x5_1).f3.f2))∧w'.cell? ⟨(ad153.add ((x5_1).toNat*14)).block,(ad153.add ((x5_1).toNat*14)).off+8,none⟩=some (.bool ((rd_T67 l1 x5_1).f3.f3))∧w'.cell? ⟨(ad153.add ((x5_1).toNat*14)).block,(ad153.add ((x5_1).toNat*14)).off+9,none⟩=some (.int .i64 ((rd_T67 l1 x5_1).f4.f0))∧w'.cell? ⟨(ad153.add ((x5_1).toNat*14)).block,(ad153.add ((x5_1).toNat*14)).off+10,none⟩=some (.int .i64 ((rd_T67 l1 x5_1).f4.f1))∧w'.cell? ⟨(ad153.add ((x5_1).toNat*14)).block,(ad153.add ((x5_1).toNat*14)).off+11,none⟩=some (.bool ((rd_T67 l1 x5_1).f4.f2))∧w'.cell? ⟨(ad153.add ((x5_1).toNat*14)).block,(ad153.add ((x5_1).toNat*14)).off+12,none⟩=some (.bool ((rd_T67 l1 x5_1).f4.f3))∧w'.cell? ⟨(ad153.add ((x5_1).toNat*14)).block,(ad153.add ((x5_1).toNat*14)).off+13,none⟩=some (.int .i64 ((rd_T67 l1 x5_1).f5))) (ds:= []) bt2_0 (by kernel_rfl) rfl rfl ⟨(hbt HB.out hw152_0),(hbt HB.out hw152_1),(hbt HB.out hw152_2),(hbt HB.out hw152_3),(hbt HB.out hw152_4),(hbt HB.out hw152_5),(hbt HB.out hw152_6),(hbt HB.out hw152_7),(hbt HB.out hw152_8),(hbt HB.out hw152_9),(hbt HB.out hw152_10),(hbt HB.out hw152_11),(hbt HB.out hw152_12),(hbt HB.out hw152_13),(hbt HB.out hw153_0),(hbt HB.out hw153_1),(hbt HB.out hw153_2),(hbt HB.out hw153_3),(hbt HB.out hw153_4),(hbt HB.out hw153_5),(hbt HB.out hw153_6),(hbt HB.out hw153_7),(hbt HB.out hw153_8),(hbt HB.out hw153_9),(hbt HB.out hw153_10),(hbt HB.out hw153_11),(hbt HB.out hw153_12),(hbt HB.out hw153_13)⟩ (fun hHeld=> ?_);refine with_tabW laws_eqNodeS.tab6 laws_eqNodeS.bits6 (fun HT_ HW_=> ?_)
       generalize wr.drew=w11 at HB hx152_0 hx152_1 hx152_10 hx152_11 hx152_12 hx152_13 hx152_2 hx152_3 hx152_4 hx152_5 hx152_6 hx152_7 hx152_8 hx152_9 hx153_0 hx153_1 hx153_10 hx153_11 hx153_12 hx153_13 hx153_2 hx153_3 hx153_4 hx153_5 hx153_6 hx153_7 hx153_8 hx153_9 hHeld ⊢
       refine pure_ (i:=0) (N:=some 17) (v:= ?_) (a':= ?_) bt2_1 rfl rfl (any_of HT_.out (by kernel_rfl)) (fun _ _ _ h=>h) (Or.inl ⟨by rfl,?_⟩) ?_ ?_
       rotate_left
       ·intro w'
        go_simp
        with_reducible rfl
       rotate_left
       ·simp only [Act.put,setIfInBounds_toArray,set_cons_zero,set_cons_succ,i64_w,i32_w]
        rfl
       refine pure_ (i:=1) (N:=some 18) (v:= ?_) (a':= ?_) bt2_2 rfl rfl (any_of HT_.out (by kernel_rfl)) (fun _ _ _ h=>h) (Or.inl ⟨by rfl,?_⟩) ?_ ?_
       rotate_left
       ·intro w'
        go_simp
        with_reducible rfl
       rotate_left
       ·simp only [Act.put,setIfInBounds_toArray,set_cons_zero,set_cons_succ,i64_w,i32_w]
        rfl
       refine pure_ (i:=2) (N:=some 19) (v:= ?_) (a':= ?_) bt2_3 rfl rfl (any_of HT_.out (by kernel_rfl)) (fun _ _ _ h=>h) (Or.inl ⟨by rfl,?_⟩) ?_ ?_
       rotate_left
       ·intro w'
        go_simp
        with_reducible rfl
       rotate_left
       ·simp only [Act.put,setIfInBounds_toArray,set_cons_zero,set_cons_succ,i64_w,i32_w]
        rfl
       refine pure_ (i:=4) (N:=some 21) (v:= ?_) (a':= ?_) bt2_4 rfl rfl (any_of HT_.out (by kernel_rfl)) (fun _ _ _ h=>h) (Or.inl ⟨by rfl,?_⟩) ?_ ?_
       rotate_left
       ·intro w'
        go_simp
        with_reducible rfl
       rotate_left
       ·simp only [Act.put,setIfInBounds_toArray,set_cons_zero,set_cons_succ,i64_w,i32_w]
        rfl
       refine pure_ (i:=5) (N:=some 22) (v:= ?_) (a':= ?_) bt2_5 rfl rfl (any_of HT_.out (by kernel_rfl)) (fun _ _ _ h=>h) (Or.inl ⟨by rfl,?_⟩) ?_ ?_
       rotate_left
       ·intro w'
        go_simp
        with_reducible rfl
       rotate_left
       ·simp only [Act.put,setIfInBounds_toArray,set_cons_zero,set_cons_succ,i64_w,i32_w]
        rfl
       refine pure_ (i:=6) (N:=some 23) (v:= ?_) (a':= ?_) bt2_6 rfl rfl (any_of HT_.out (by kernel_rfl)) (fun _ _ _ h=>h) (Or.inl ⟨by rfl,?_⟩) ?_ ?_
       rotate_left
       ·intro w'
        go_simp
        with_reducible rfl
       rotate_left
       ·simp only [Act.put,setIfInBounds_toArray,set_cons_zero,set_cons_succ,i64_w,i32_w]
        rfl
       refine take_ (i:=3) (N:=some 20) (v:= ?_) (a':= ?_) bt2_7 rfl rfl (take_ofW HT_.out HW_.out (by kernel_rfl)) (fun _ _ _ h=>h) (Or.inl ⟨by rfl,?_⟩) hHeld ?_ ?_
       rotate_left
       ·rintro w' ⟨s0,s1,s2,s3,s4,s5,s6,s7,s8,s9,s10,s11,s12,s13,s14,s15,s16,s17,s18,s19,s20,s21,s22,s23,s24,s25,s26,s27⟩
        go_simp
        with_reducible rfl
       rotate_left
       ·simp only [Act.put,setIfInBounds_toArray,set_cons_zero,set_cons_succ,i64_w,i32_w]
        rfl
       refine take_ (i:=7) (N:=some 24) (v:= ?_) (a':= ?_) bt2_8 rfl rfl (take_ofW HT_.out HW_.out (by kernel_rfl)) (fun _ _ _ h=>h) (Or.inl ⟨by rfl,?_⟩) hHeld ?_ ?_
       rotate_left
       ·rintro w' ⟨s0,s1,s2,s3,s4,s5,s6,s7,s8,s9,s10,s11,s12,s13,s14,s15,s16,s17,s18,s19,s20,s21,s22,s23,s24,s25,s26,s27⟩
        go_simp
        with_reducible rfl
       rotate_left
       ·simp only [Act.put,setIfInBounds_toArray,set_cons_zero,set_cons_succ,i64_w,i32_w]
        rfl
       refine one_ (i:=8) (N:=some 25) bt2_9 rfl rfl (one_of HT_.out (by kernel_rfl)) (by decide) (fun K hK=> ?_)
       refine goes_ Tryz.func38 (by kernel_rfl) rfl #[.agg #[.int .i64 ((rd_T67 l0 x5_1).f0),.string ((rd_T67 l0 x5_1).f1),.bool ((rd_T67 l0 x5_1).f2.f0),.int .i64 ((rd_T67 l0 x5_1).f2.f1),.int .i64 ((rd_T67 l0 x5_1).f2.f2),.int .i64 ((rd_T67 l0 x5_1).f3.f0),.int .i64 ((rd_T67 l0 x5_1).f3.f1),.bool ((rd_T67 l0 x5_1).f3.f2),.bool ((rd_T67 l0 x5_1).f3.f3),.int .i64 ((rd_T67 l0 x5_1).f4.f0),.int .i64 ((rd_T67 l0 x5_1).f4.f1),.bool ((rd_T67 l0 x5_1).f4.f2),.bool ((rd_T67 l0 x5_1).f4.f3),.int .i64 ((rd_T67 l0 x5_1).f5)],.agg #[.int .i64 ((rd_T67 l1 x5_1).f0),.string ((rd_T67 l1 x5_1).f1),.bool ((rd_T67 l1 x5_1).f2.f0),.int .i64 ((rd_T67 l1 x5_1).f2.f1),.int .i64 ((rd_T67 l1 x5_1).f2.f2),.int .i64 ((rd_T67 l1 x5_1).f3.f0),.int .i64 ((rd_T67 l1 x5_1).f3.f1),.bool ((rd_T67 l1 x5_1).f3.f2),.bool ((rd_T67 l1 x5_1).f3.f3),.int .i64 ((rd_T67 l1 x5_1).f4.f0),.int .i64 ((rd_T67 l1 x5_1).f4.f1),.bool ((rd_T67 l1 x5_1).f4.f2),.bool ((rd_T67 l1 x5_1).f4.f3),.int .i64 ((rd_T67 l1 x5_1).f5)]] (by rfl) rfl rfl (by(try simp only [map_toArray,map_cons,map_nil]);first|done|rfl|(simp only [length_drop,length_take];rfl)) ?_
       with_reducible refine(laws_eqNode.calls ((rd_T67 l0 x5_1).f0) ((rd_T67 l0 x5_1).f1) ((rd_T67 l0 x5_1).f2.f0) ((rd_T67 l0 x5_1).f2.f1) ((rd_T67 l0 x5_1).f2.f2) ((rd_T67 l0 x5_1).f3.f0) ((rd_T67 l0 x5_1).f3.f1) ((rd_T67 l0 x5_1).f3.f2) ((rd_T67 l0 x5_1).f3.f3) ((rd_T67 l0 x5_1).f4.f0) ((rd_T67 l0 x5_1).f4.f1) ((rd_T67 l0 x5_1).f4.f2) ((rd_T67 l0 x5_1).f4.f3) ((rd_T67 l0 x5_1).f5) ((rd_T67 l1 x5_1).f0) ((rd_T67 l1 x5_1).f1) ((rd_T67 l1 x5_1).f2.f0) ((rd_T67 l1 x5_1).f2.f1) ((rd_T67 l1 x5_1).f2.f2) ((rd_T67 l1 x5_1).f3.f0) ((rd_T67 l1 x5_1).f3.f1) ((rd_T67 l1 x5_1).f3.f2) ((rd_T67 l1 x5_1).f3.f3) ((rd_T67 l1 x5_1).f4.f0) ((rd_T67 l1 x5_1).f4.f1) ((rd_T67 l1 x5_1).f4.f2) ((rd_T67 l1 x5_1).f4.f3) ((rd_T67 l1 x5_1).f5) false _ A7.out).mono ?_
       rintro e w12 ⟨rfl,hb⟩
       refine⟨_,rfl,?_⟩
       have n0_:=Aside0.mk (z5q (ibh HB.out) hb)
       clear HB
       have HB:=n0_
       clear n0_
       (try clear hb)
       (try clear hb2)
       (try clear hk)
       (try clear hi)
       refine hK.out _ _ ⟨(hbt HB.out hw152_0),(hbt HB.out hw152_1),(hbt HB.out hw152_2),(hbt HB.out hw152_3),(hbt HB.out hw152_4),(hbt HB.out hw152_5),(hbt HB.out hw152_6),(hbt HB.out hw152_7),(hbt HB.out hw152_8),(hbt HB.out hw152_9),(hbt HB.out hw152_10),(hbt HB.out hw152_11),(hbt HB.out hw152_12),(hbt HB.out hw152_13),(hbt HB.out hw153_0),(hbt HB.out hw153_1),(hbt HB.out hw153_2),(hbt HB.out hw153_3),(hbt HB.out hw153_4),(hbt HB.out hw153_5),(hbt HB.out hw153_6),(hbt HB.out hw153_7),(hbt HB.out hw153_8),(hbt HB.out hw153_9),(hbt HB.out hw153_10),(hbt HB.out hw153_11),(hbt HB.out hw153_12),(hbt HB.out hw153_13)⟩ (fun hHeld=> ?_)
       clear hK K
       refine norm_ (a':= ?_) ?_ ?_
       rotate_left
       ·show Act.put _ (some 25) _=_
        simp only [Act.put,setIfInBounds_toArray,set_cons_zero,set_cons_succ,i64_w,i32_w]
        rfl
       refine pure_ (i:=9) (N:=some 26) (v:= ?_) (a':= ?_) bt2_10 rfl rfl (any_of HT_.out (by kernel_rfl)) (fun _ _ _ h=>h) (Or.inl ⟨by rfl,?_⟩) ?_ ?_
       rotate_left
       ·intro w'
        go_simp
        with_reducible rfl
       rotate_left
       ·simp only [Act.put,setIfInBounds_toArray,set_cons_zero,set_cons_succ,i64_w,i32_w]
        rfl
       refine done_ (done_of HT_.out (by kernel_rfl)) ?_
       try go_wp2
       go_ret
       exact⟨by first|rfl|(simp [errW_none,errW_some]<;>rfl)|(simp [*,errW_none,errW_some]<;>rfl),by repeat(first|(with_reducible first|exact HB.out|apply z2q|apply z3q|apply z4q)|exact HB.out)⟩
     ·rw [if_neg c6]at H
      exact absurd H (by simp)
    ·rw [if_neg c5]at H
     exact absurd H (by simp)
   ·rw [if_neg c4]at H
    have c4b0:decide (x5_1<(l0.length:Int))=false:=decide_eq_false c4
    clear c4
    obtain rfl:=Option.some.inj H
    go_wp2
    go_ret
    exact⟨by first|rfl|(simp [errW_none,errW_some]<;>rfl)|(simp [*,errW_none,errW_some]<;>rfl),by repeat(first|(with_reducible first|exact HB.out|apply z2q|apply z3q|apply z4q)|exact HB.out)⟩

set_option maxHeartbeats 8000000 in
set_option maxRecDepth 100000 in
theorem laws_eqNodeS.calls_p2 (k:Nat) (A0:Option Addr) (c0:Nat) (l0:List (S67)) (A1:Option Addr) (c1:Nat) (l1:List (S67)) (r:Bool) (w:World) (hr0:Kd.C k67 w A0 l0.length l0) (hc0:l0.length≤c0) (hr1:Kd.C k67 w A1 l1.length l1) (hc1:l1.length≤c1) (c3:¬ ((l0.length:Int)=(l1.length:Int))) (H:(some false)=some r):
  Calls Tryz.prog 13 #[.slice A0 l0.length c0,.slice A1 l1.length c1] w fun e w'=>e= .returned (.bool r)∧Below w.heap.size w w':=by
 have hu67:=Tryz.underlying67
 have HR0:=Aside0.mk hr0
 have HC0:=Aside0.mk hc0
 clear hr0 hc0
 have HR1:=Aside0.mk hr1
 have HC1:=Aside0.mk hc1
 clear hr1 hc1
 have HB:=Aside0.mk (Below.refl w.heap.size w)
 have c3b0:((l0.length:Int)==(l1.length:Int))=false:=beq_eq_false_iff_ne.mpr c3
 have c3b1:((l0.length:Int) !=(l1.length:Int))=true:=bne_iff_ne.mpr c3
 have c3b2:(l0.length==l1.length)=false:=by first|simpa using c3|(simp at c3 ⊢;omega)
 obtain rfl:=Option.some.inj H
 go_enter Tryz.func13,Tryz.ntmps13
 go_wp2
 go_ret
 exact⟨by first|rfl|(simp [errW_none,errW_some]<;>rfl)|(simp [*,errW_none,errW_some]<;>rfl),by repeat(first|(with_reducible first|exact HB.out|apply z2q|apply z3q|apply z4q)|exact HB.out)⟩

set_option maxHeartbeats 8000000 in
set_option maxRecDepth 100000 in
theorem laws_eqNodeS.calls (k:Nat) (A0:Option Addr) (c0:Nat) (l0:List (S67)) (A1:Option Addr) (c1:Nat) (l1:List (S67)) (r:Bool) (w:World) (hr0:Kd.C k67 w A0 l0.length l0) (hc0:l0.length≤c0) (hr1:Kd.C k67 w A1 l1.length l1) (hc1:l1.length≤c1) (h:laws_eqNodeS.f k l0 l1=some r):
  Calls Tryz.prog 13 #[.slice A0 l0.length c0,.slice A1 l1.length c1] w fun e w'=>e= .returned (.bool r)∧Below w.heap.size w w':=by
 have H:(if(l0.length:Int)=(l1.length:Int)then(laws_eqNodeS.l0 k l0 l1 0)else(some false))=some r:=h
 by_cases c3:(l0.length:Int)=(l1.length:Int)
 ·rw [if_pos c3]at H
  exact laws_eqNodeS.calls_p1 k A0 c0 l0 A1 c1 l1 r w hr0 hc0 hr1 hc1 c3 H
 ·rw [if_neg c3]at H
  exact laws_eqNodeS.calls_p2 k A0 c0 l0 A1 c1 l1 r w hr0 hc0 hr1 hc1 c3 H

/-! ### spec_l4Take: function 70 -/

mutual
def spec_l4Take.j0:Nat→List (S67)→Int→Int→Bool→Option (Int×ByteArray×Bool×Int×Int×Int×Int×Bool×Bool×Int×Int×Bool×Bool×Int×(List (S70))×Int)
 |0,_,_,_,_=>none
 |k+1,x0,x1,x2,x35=>if x35=true then(some (0,(⟨#[]⟩:ByteArray),false,0,0,0,0,false,false,0,0,false,false,0,([]:List (S70)),(-1)))else(if 0≤x1 then(if x1<(x0.length:Int)then(spec_l4Take.l0 k x0 (wrap64 (x1+1)) x2 0 ((rd_T67 x0 x1).f0) ((rd_T67 x0 x1).f1) ((rd_T67 x0 x1).f2.f0) ((rd_T67 x0 x1).f2.f1) ((rd_T67 x0 x1).f2.f2) ((rd_T67 x0 x1).f3.f0) ((rd_T67 x0 x1).f3.f1) ((rd_T67 x0 x1).f3.f2) ((rd_T67 x0 x1).f3.f3) ((rd_T67 x0 x1).f4.f0) ((rd_T67 x0 x1).f4.f1) ((rd_T67 x0 x1).f4.f2) ((rd_T67 x0 x1).f4.f3) ((rd_T67 x0 x1).f5) ([]:List (S70)))else(none))else(none))
def spec_l4Take.l0:Nat→List (S67)→Int→Int→Int→Int→ByteArray→Bool→Int→Int→Int→Int→Bool→Bool→Int→Int→Bool→Bool→Int→List (S70)→Option (Int×ByteArray×Bool×Int×Int×Int×Int×Bool×Bool×Int×Int×Bool×Bool×Int×(List (S70))×Int)
 |0,_,_,_,_,_,_,_,_,_,_,_,_,_,_,_,_,_,_,_=>none
 |k+1,x0,x1,x2,x9,x160000,x160001,x160002,x160003,x160004,x160005,x160006,x160007,x160008,x160009,x160010,x160011,x160012,x160013,x160014=>if x9<x160013 then((spec_l4Take.f k x0 x1 (wrap64 (x2+1))).bind fun bt160=>(if bt160.2.2.2.2.2.2.2.2.2.2.2.2.2.2.2<0 then(some (0,(⟨#[]⟩:ByteArray),false,0,0,0,0,false,false,0,0,false,false,0,([]:List (S70)),(-1)))else(if x160014.length<1099511627776 then(spec_l4Take.l0 k x0 bt160.2.2.2.2.2.2.2.2.2.2.2.2.2.2.2 x2 (wrap64 (x9+1)) x160000 x160001 x160002 x160003 x160004 x160005 x160006 x160007 x160008 x160009 x160010 x160011 x160012 x160013 (x160014 ++ [(⟨(⟨bt160.1,bt160.2.1,(⟨bt160.2.2.1,bt160.2.2.2.1,bt160.2.2.2.2.1⟩:S65),(⟨bt160.2.2.2.2.2.1,bt160.2.2.2.2.2.2.1,bt160.2.2.2.2.2.2.2.1,bt160.2.2.2.2.2.2.2.2.1⟩:S47),(⟨bt160.2.2.2.2.2.2.2.2.2.1,bt160.2.2.2.2.2.2.2.2.2.2.1,bt160.2.2.2.2.2.2.2.2.2.2.2.1,bt160.2.2.2.2.2.2.2.2.2.2.2.2.1⟩:S47),bt160.2.2.2.2.2.2.2.2.2.2.2.2.2.1⟩:S67),bt160.2.2.2.2.2.2.2.2.2.2.2.2.2.2.1⟩:S70)]))else(none))))else(some (x160000,x160001,x160002,x160003,x160004,x160005,x160006,x160007,x160008,x160009,x160010,x160011,x160012,x160013,x160014,x1))
def spec_l4Take.f:Nat→List (S67)→Int→Int→Option (Int×ByteArray×Bool×Int×Int×Int×Int×Bool×Bool×Int×Int×Bool×Bool×Int×(List (S70))×Int)
 |0,_,_,_=>none
 |k+1,l0,a1,a2=>if a1≥(l0.length:Int)then(spec_l4Take.j0 k l0 a1 a2 true)else(if a2 > 40 then(spec_l4Take.j0 k l0 a1 a2 true)else(if 0≤a1 then(if a1<(l0.length:Int)then(if((rd_T67 l0 a1).f5)<0 then(spec_l4Take.j0 k l0 a1 a2 true)else(spec_l4Take.j0 k l0 a1 a2 (decide (((rd_T67 l0 a1).f5) > 100))))else(none))else(none)))
end

theorem setRow_below {B g:Nat} {w0 w:World} (hb:Below B w0 w) (hg:B≤g) (cs:Array Value):Below B w0 (w.setRow g cs):=⟨hb.os,hb.tape,hb.output,by rw [size_setRow];exact hb.size,fun k hk=>(setRow_other w g k cs (by omega)).trans (hb.block k hk)⟩
theorem setRow_R {α:Type} {d:Kd α} {e base:Nat} {ok:Nat→Prop} {w:World} {v:Value} {xs:List α} (h:d.R e w base ok v xs) (g:Nat) (cs:Array Value) (hg:∀ k,ok k→k≠g):d.R e (w.setRow g cs) base ok v xs:=Kd.R_step h (fun k hk _=>setRow_other w g k cs (hg k hk))
theorem row15 {w:World} {g:Nat} {t:TypeId} {v0 v1 v2 v3 v4 v5 v6 v7 v8 v9 v10 v11 v12 v13 v14:Value} (h:w.heap[g]? =some (.cells #[v0,v1,v2,v3,v4,v5,v6,v7,v8,v9,v10,v11,v12,v13,v14] t (0,0))):w.cell? ⟨g,0,none⟩=some v0∧w.cell? ⟨g,1,none⟩=some v1∧w.cell? ⟨g,2,none⟩=some v2∧w.cell? ⟨g,3,none⟩=some v3∧w.cell? ⟨g,4,none⟩=some v4∧w.cell? ⟨g,5,none⟩=some v5∧w.cell? ⟨g,6,none⟩=some v6∧w.cell? ⟨g,7,none⟩=some v7∧w.cell? ⟨g,8,none⟩=some v8∧w.cell? ⟨g,9,none⟩=some v9∧w.cell? ⟨g,10,none⟩=some v10∧w.cell? ⟨g,11,none⟩=some v11∧w.cell? ⟨g,12,none⟩=some v12∧w.cell? ⟨g,13,none⟩=some v13∧w.cell? ⟨g,14,none⟩=some v14:=⟨(z1q h 0).trans rfl,(z1q h 1).trans rfl,(z1q h 2).trans rfl,(z1q h 3).trans rfl,(z1q h 4).trans rfl,(z1q h 5).trans rfl,(z1q h 6).trans rfl,(z1q h 7).trans rfl,(z1q h 8).trans rfl,(z1q h 9).trans rfl,(z1q h 10).trans rfl,(z1q h 11).trans rfl,(z1q h 12).trans rfl,(z1q h 13).trans rfl,(z1q h 14).trans rfl⟩
set_option maxHeartbeats 8000000 in
set_option maxRecDepth 100000 in
theorem spec_l4Take.calls (k:Nat):∀ (A0:Option Addr) (c0:Nat) (l0:List (S67)) (a1:Int) (a2:Int) (r1:Int) (r2:ByteArray) (r3:Bool) (r4:Int) (r5:Int) (r6:Int) (r7:Int) (r8:Bool) (r9:Bool) (r10:Int) (r11:Int) (r12:Bool) (r13:Bool) (r14:Int) (r15:List (S70)) (r16:Int) (w:World) (hr0:Kd.C k67 w A0 l0.length l0) (hc0:l0.length≤c0) (h:spec_l4Take.f k l0 a1 a2=some (r1,r2,r3,r4,r5,r6,r7,r8,r9,r10,r11,r12,r13,r14,r15,r16)),
  Calls Tryz.prog 70 #[.slice A0 l0.length c0,.int .i64 a1,.int .i64 a2] w fun e w'=>∃ v14_:Value,e= .returned (.tuple #[.agg #[.int .i64 r1,.string r2,.bool r3,.int .i64 r4,.int .i64 r5,.int .i64 r6,.int .i64 r7,.bool r8,.bool r9,.int .i64 r10,.int .i64 r11,.bool r12,.bool r13,.int .i64 r14,v14_],.int .i64 r16])∧Kd.R k70 70 w' w.heap.size (fun _=>True) v14_ r15∧Below w.heap.size w w':=by
 induction k using Nat.strongRecOn with
 |_ k ih=>
 intro A0 c0 l0 a1 a2 r1 r2 r3 r4 r5 r6 r7 r8 r9 r10 r11 r12 r13 r14 r15 r16 w hr0 hc0 h
 cases k with
 |zero=>exact absurd h (by simp [spec_l4Take.f])
 |succ k=>
 simp only [spec_l4Take.f]at h
 have H:=h;clear h
 have HR:=Lib.hid hr0;have HC:=Lib.hid hc0;clear hr0 hc0
 have HB:=Lib.hid (z2q (Below.refl w.heap.size w) (.cells #[.int .i64 0,.string (⟨#[]⟩:ByteArray),.bool false,.int .i64 0,.int .i64 0,.int .i64 0,.int .i64 0,.bool false,.bool false,.int .i64 0,.int .i64 0,.bool false,.bool false,.int .i64 0,.slice none 0 0] 70))
 by_cases c1:a1≥(l0.length:Int)
 ·rw [if_pos c1]at H
  have b1:decide ((l0.length:Int)≤a1)=true:=decide_eq_true c1
  clear c1
  cases k with
  |zero=>exact absurd H (by simp [spec_l4Take.j0])
  |succ k=>
  simp only [spec_l4Take.j0,↓reduceIte]at H
  simp only [Option.some.injEq,Prod.mk.injEq]at H
  obtain⟨rfl,rfl,rfl,rfl,rfl,rfl,rfl,rfl,rfl,rfl,rfl,rfl,rfl,rfl,rfl,rfl⟩:=H
  go_enter Tryz.func70,Tryz.ntmps70
  go_wp2_with fail
  refine bodyPost_ret (results_ct rfl _ _ w.heap.size 70 #[.int .i64 0,.string (⟨#[]⟩:ByteArray),.bool false,.int .i64 0,.int .i64 0,.int .i64 0,.int .i64 0,.bool false,.bool false,.int .i64 0,.int .i64 0,.bool false,.bool false,.int .i64 0,.slice none 0 0] (0,0) _ rfl (heap_alloc_new w _) Tryz.underlying70 rfl (by kernel_rfl)) rfl ?_
  exact⟨_,rfl,Kd.R_nil _ _ _ _ _,HB.out⟩
 rw [if_neg c1]at H
 have b1:decide ((l0.length:Int)≤a1)=false:=decide_eq_false c1
 by_cases c2:a2 > 40
 ·rw [if_pos c2]at H
  have b2:decide (40<a2)=true:=decide_eq_true c2
  clear c1 c2
  cases k with
  |zero=>exact absurd H (by simp [spec_l4Take.j0])
  |succ k=>
  simp only [spec_l4Take.j0,↓reduceIte]at H
  simp only [Option.some.injEq,Prod.mk.injEq]at H
  obtain⟨rfl,rfl,rfl,rfl,rfl,rfl,rfl,rfl,rfl,rfl,rfl,rfl,rfl,rfl,rfl,rfl⟩:=H
  go_enter Tryz.func70,Tryz.ntmps70
  go_wp2_with fail
  refine bodyPost_ret (results_ct rfl _ _ w.heap.size 70 #[.int .i64 0,.string (⟨#[]⟩:ByteArray),.bool false,.int .i64 0,.int .i64 0,.int .i64 0,.int .i64 0,.bool false,.bool false,.int .i64 0,.int .i64 0,.bool false,.bool false,.int .i64 0,.slice none 0 0] (0,0) _ rfl (heap_alloc_new w _) Tryz.underlying70 rfl (by kernel_rfl)) rfl ?_
  exact⟨_,rfl,Kd.R_nil _ _ _ _ _,HB.out⟩
 rw [if_neg c2]at H
 have b2:decide (40<a2)=false:=decide_eq_false c2
 by_cases c3:0≤a1
 ·skip
  have c4:a1<(l0.length:Int):=by omega
  rw [if_pos c3,if_pos c4]at H
  obtain⟨ad,rfl,y0,y1,y2,y3,y4,y5,y6,y7,y8,y9,y10,y11,y12,y13⟩:=at_T67 (Kd.C_below HR.out HB.out) a1 c3 c4
  have p1:(0≤a1)=True:=eq_true c3
  have p2:(a1<(l0.length:Int))=True:=eq_true c4
  clear c1 c2 c3 c4
  generalize hX:rd_T67 l0 a1=X at *
  obtain⟨n0,n1,⟨n2,n3,n4⟩,⟨n5,n6,n7,n8⟩,⟨n9,n10,n11,n12⟩,n13⟩:=X
  have HXX:=Lib.hid hX;clear hX
  simp only at y0 y1 y2 y3 y4 y5 y6 y7 y8 y9 y10 y11 y12 y13 H
  by_cases c5:n13<0
  ·rw [if_pos c5]at H
   have b3:decide (n13<0)=true:=decide_eq_true c5
   clear c5
   cases k with
   |zero=>exact absurd H (by simp [spec_l4Take.j0])
   |succ k=>
   simp only [spec_l4Take.j0,↓reduceIte]at H
   simp only [Option.some.injEq,Prod.mk.injEq]at H
   obtain⟨rfl,rfl,rfl,rfl,rfl,rfl,rfl,rfl,rfl,rfl,rfl,rfl,rfl,rfl,rfl,rfl⟩:=H
   go_enter Tryz.func70,Tryz.ntmps70
   go_wp2_with fail
   refine bodyPost_ret (results_ct rfl _ _ w.heap.size 70 #[.int .i64 0,.string (⟨#[]⟩:ByteArray),.bool false,.int .i64 0,.int .i64 0,.int .i64 0,.int .i64 0,.bool false,.bool false,.int .i64 0,.int .i64 0,.bool false,.bool false,.int .i64 0,.slice none 0 0] (0,0) _ rfl (heap_alloc_new w _) Tryz.underlying70 rfl (by kernel_rfl)) rfl ?_
   exact⟨_,rfl,Kd.R_nil _ _ _ _ _,HB.out⟩
  rw [if_neg c5]at H
  have b3:decide (n13<0)=false:=decide_eq_false c5
  by_cases c6:n13 > 100
  ·rw [decide_eq_true c6]at H
   have b4:decide (100<n13)=true:=decide_eq_true c6
   clear c5 c6
   cases k with
   |zero=>exact absurd H (by simp [spec_l4Take.j0])
   |succ k=>
   simp only [spec_l4Take.j0,↓reduceIte]at H
   simp only [Option.some.injEq,Prod.mk.injEq]at H
   obtain⟨rfl,rfl,rfl,rfl,rfl,rfl,rfl,rfl,rfl,rfl,rfl,rfl,rfl,rfl,rfl,rfl⟩:=H
   go_enter Tryz.func70,Tryz.ntmps70
   go_wp2_with fail
   refine bodyPost_ret (results_ct rfl _ _ w.heap.size 70 #[.int .i64 0,.string (⟨#[]⟩:ByteArray),.bool false,.int .i64 0,.int .i64 0,.int .i64 0,.int .i64 0,.bool false,.bool false,.int .i64 0,.int .i64 0,.bool false,.bool false,.int .i64 0,.slice none 0 0] (0,0) _ rfl (heap_alloc_new w _) Tryz.underlying70 rfl (by kernel_rfl)) rfl ?_
   exact⟨_,rfl,Kd.R_nil _ _ _ _ _,HB.out⟩
  rw [decide_eq_false c6]at H
  have b4:decide (100<n13)=false:=decide_eq_false c6
  clear c5 c6
  cases k with
  |zero=>exact absurd H (by simp [spec_l4Take.j0])
  |succ k=>
  simp only [spec_l4Take.j0,Bool.false_eq_true,↓reduceIte]at H
  have H':spec_l4Take.l0 k l0 (wrap64 (a1+1)) a2 0 n0 n1 n2 n3 n4 n5 n6 n7 n8 n9 n10 n11 n12 n13 []=some (r1,r2,r3,r4,r5,r6,r7,r8,r9,r10,r11,r12,r13,r14,r15,r16):=by
   rw [if_pos (of_eq_true p1),if_pos (of_eq_true p2),HXX.out]at H;exact H
  have HA:=Lib.hid H';clear H H' HXX
  go_enter Tryz.func70,Tryz.ntmps70
  go_wp2_with fail
  clear y0 y1 y2 y3 y4 y5 y6 y7 y8 y9 y10 y11 y12 y13 p1 p2 b1 b2 b3 b4
  go_loopg [1,9] k (fun kq v1 v9 w'=>∃ (x1 x9:Int) (u:Value) (ks:List S70),v1= .int .i64 x1∧v9= .int .i64 x9∧Hid (spec_l4Take.l0 kq l0 x1 a2 x9 n0 n1 n2 n3 n4 n5 n6 n7 n8 n9 n10 n11 n12 n13 ks=some (r1,r2,r3,r4,r5,r6,r7,r8,r9,r10,r11,r12,r13,r14,r15,r16))∧Hid (kq≤k)∧Hid (w'.heap[w.heap.size]? =some (.cells #[.int .i64 0,.string (⟨#[]⟩:ByteArray),.bool false,.int .i64 0,.int .i64 0,.int .i64 0,.int .i64 0,.bool false,.bool false,.int .i64 0,.int .i64 0,.bool false,.bool false,.int .i64 0,.slice none 0 0] 70 (0,0)))∧Hid (w'.heap[w.heap.size+1]? =some (.cells #[.int .i64 n0,.string n1,.bool n2,.int .i64 n3,.int .i64 n4,.int .i64 n5,.int .i64 n6,.bool n7,.bool n8,.int .i64 n9,.int .i64 n10,.bool n11,.bool n12,.int .i64 n13,u] 70 (0,0)))∧Hid (Kd.R k70 70 w' w.heap.size (fun k_=>k_≠w.heap.size∧k_≠w.heap.size+1) u ks)∧Hid (Below w.heap.size w w'))
  case atStart=>exact⟨_,0,.slice none 0 0, [],(by first|rfl|(simp;done)),rfl,HA,Lib.hid (Nat.le_refl _),Lib.hid (heap_alloc2_old w _ _),Lib.hid (heap_alloc2_new w _ _),Lib.hid (Kd.R_nil _ _ _ _ _),Lib.hid (z2q HB.out _)⟩
  case round=>
   clear HA HB
   obtain⟨x1,x9,u,ks,rfl,rfl,HA,HK,HG0,HG8,HO,HB⟩:=hrel
   obtain⟨Au,cu,rfl⟩:=Kd.R_slice HO.out
   cases gk with
   |zero=>exact absurd HA.out (by simp [spec_l4Take.l0])
   |succ k1=>
   have H:=HA.out
   clear HA
   simp only [spec_l4Take.l0]at H
   have hx13:wr.cell? ⟨w.heap.size+1,13,none⟩=some (.int .i64 n13):=(z1q HG8.out 13).trans rfl
   by_cases c1:x9<n13
   ·skip
    rw [if_pos c1]at H
    have b1:decide (x9<n13)=true:=decide_eq_true c1
    clear c1
    obtain⟨⟨t0,t1,t2,t3,t4,t5,t6,t7,t8,t9,t10,t11,t12,t13,t14,t15⟩,hT,H⟩:=Option.bind_eq_some_iff.mp H
    simp only at H
    have HT:=Lib.hid hT;clear hT
    go_wp2_with fail
    refine(ih k1 (by have:=HK.out;omega) _ c0 l0 x1 (wrap64 (a2+1)) t0 t1 t2 t3 t4 t5 t6 t7 t8 t9 t10 t11 t12 t13 t14 t15 _ (Kd.C_below HR.out HB.out) HC.out HT.out).mono ?_;rintro e w3 ⟨v,rfl,ho,hb⟩
    obtain⟨Av,cv,rfl⟩:=Kd.R_slice ho
    have HG0b:=Lib.hid (z10q (z12q HG0.out hb) (.cells #[.int .i64 t0,.string t1,.bool t2,.int .i64 t3,.int .i64 t4,.int .i64 t5,.int .i64 t6,.bool t7,.bool t8,.int .i64 t9,.int .i64 t10,.bool t11,.bool t12,.int .i64 t13,.slice Av t14.length cv] 70))
    have HG8b:=Lib.hid (z10q (z12q HG8.out hb) (.cells #[.int .i64 t0,.string t1,.bool t2,.int .i64 t3,.int .i64 t4,.int .i64 t5,.int .i64 t6,.bool t7,.bool t8,.int .i64 t9,.int .i64 t10,.bool t11,.bool t12,.int .i64 t13,.slice Av t14.length cv] 70))
    have HBb:=Lib.hid (z2q (z5q HB.out hb) (.cells #[.int .i64 t0,.string t1,.bool t2,.int .i64 t3,.int .i64 t4,.int .i64 t5,.int .i64 t6,.bool t7,.bool t8,.int .i64 t9,.int .i64 t10,.bool t11,.bool t12,.int .i64 t13,.slice Av t14.length cv] 70))
    have HO1:=Lib.hid (Kd.R_alloc (Kd.R_bound (Kd.R_below (Kd.R_elder' HO.out (Kd.R_base ho) hb) (Below.refl _ _))) (.cells #[.int .i64 t0,.string t1,.bool t2,.int .i64 t3,.int .i64 t4,.int .i64 t5,.int .i64 t6,.bool t7,.bool t8,.int .i64 t9,.int .i64 t10,.bool t11,.bool t12,.int .i64 t13,.slice Av t14.length cv] 70))
    have HO2:=Lib.hid (Kd.R_alloc (Kd.R_bound (Kd.R_new' ho (Kd.R_lt HO.out))) (.cells #[.int .i64 t0,.string t1,.bool t2,.int .i64 t3,.int .i64 t4,.int .i64 t5,.int .i64 t6,.bool t7,.bool t8,.int .i64 t9,.int .i64 t10,.bool t11,.bool t12,.int .i64 t13,.slice Av t14.length cv] 70))
    have HX:=Lib.hid (heap_alloc_new w3 (.cells #[.int .i64 t0,.string t1,.bool t2,.int .i64 t3,.int .i64 t4,.int .i64 t5,.int .i64 t6,.bool t7,.bool t8,.int .i64 t9,.int .i64 t10,.bool t11,.bool t12,.int .i64 t13,.slice Av t14.length cv] 70))
    have HZ:=Lib.hid (z20q HG8.out)
    have HZ3:=Lib.hid hb.size
    have HOn:=Lib.hid (show ∀ k_,(Value.slice Av t14.length cv).ownBlock=some k_→k_<w3.heap.size from Kd.R_lt ho)
    have HOu:=Lib.hid (show ∀ k_,(Value.slice Au ks.length cu).ownBlock=some k_→k_<wr.heap.size from Kd.R_lt HO.out)
    clear ho hb hx13 HG0 HG8 HO HB
    go_upto_region 9 with fail
    generalize w3.alloc (.cells #[.int .i64 t0,.string t1,.bool t2,.int .i64 t3,.int .i64 t4,.int .i64 t5,.int .i64 t6,.bool t7,.bool t8,.int .i64 t9,.int .i64 t10,.bool t11,.bool t12,.int .i64 t13,.slice Av t14.length cv] 70)=W4 at *
    by_cases c2:t15<0
    ·rw [if_pos c2]at H
     have b2:decide (t15<0)=true:=decide_eq_true c2
     clear c2
     simp only [Option.some.injEq,Prod.mk.injEq]at H
     obtain⟨rfl,rfl,rfl,rfl,rfl,rfl,rfl,rfl,rfl,rfl,rfl,rfl,rfl,rfl,rfl,rfl⟩:=H
     go_wp2_with (first|((with_reducible refine gate_store (t:=70) (p:=6) rfl ?_);refine wpList_store_row rfl 70 (.tmp 6) (.tmp 61) rfl w.heap.size #[.int .i64 0,.string (⟨#[]⟩:ByteArray),.bool false,.int .i64 0,.int .i64 0,.int .i64 0,.int .i64 0,.bool false,.bool false,.int .i64 0,.int .i64 0,.bool false,.bool false,.int .i64 0,.slice none 0 0] rfl rfl 70 #[.int .i64 0,.string (⟨#[]⟩:ByteArray),.bool false,.int .i64 0,.int .i64 0,.int .i64 0,.int .i64 0,.bool false,.bool false,.int .i64 0,.int .i64 0,.bool false,.bool false,.int .i64 0,.slice none 0 0] HG0b.out (by kernel_rfl) rfl (by simp [Value.oneCell']) ?_)|fail)
     refine bodyPost_ret (results_ct rfl _ _ w.heap.size 70 #[.int .i64 0,.string (⟨#[]⟩:ByteArray),.bool false,.int .i64 0,.int .i64 0,.int .i64 0,.int .i64 0,.bool false,.bool false,.int .i64 0,.int .i64 0,.bool false,.bool false,.int .i64 0,.slice none 0 0] (0,0) _ rfl (setRow_heap _ _ _ _ _ _ HG0b.out) Tryz.underlying70 rfl (by kernel_rfl)) rfl ?_
     exact⟨_,rfl,Kd.R_nil _ _ _ _ _,setRow_below HBb.out (Nat.le_refl _) _⟩
    rw [if_neg c2]at H
    have b2:decide (t15<0)=false:=decide_eq_false c2
    clear c2
    by_cases c3:ks.length<1099511627776
    ·skip
     rw [if_pos c3]at H
     have HC3:=Lib.hid c3;clear c3
     have HA:=Lib.hid H;clear H
     have hx14:W4.cell? ⟨w.heap.size+1,14,none⟩=some (.slice Au ks.length cu):=(z1q HG8b.out 14).trans rfl
     obtain⟨hx0,hx1,hx2,hx3,hx4,hx5,hx6,hx7,hx8,hx9,hx10,hx11,hx12,hx13,hy14⟩:=row15 HX.out
     go_wp2_with (first|((with_reducible refine gate_builtin (b:= .append) (xs:=#[.tmp 63,.tmp 65]) rfl ?_);at_builtin;refine Kd.R_append k70 (w0:=w) w.heap.size rfl (.tmp 63) (.tmp 65) 68 70 (.agg #[.int .i64 0,.string (⟨#[]⟩:ByteArray),.bool false,.int .i64 0,.int .i64 0,.int .i64 0,.int .i64 0,.bool false,.bool false,.int .i64 0,.int .i64 0,.bool false,.bool false,.int .i64 0,.slice none 0 0]) 128 rfl Tryz.underlying68 info70 rfl (by decide) (by omega) (.slice Au ks.length cu) ks (⟨⟨t0,t1,⟨t2,t3,t4⟩,⟨t5,t6,t7,t8⟩,⟨t9,t10,t11,t12⟩,t13⟩,t14⟩:S70) [.int .i64 t0,.string t1,.bool t2,.int .i64 t3,.int .i64 t4,.int .i64 t5,.int .i64 t6,.bool t7,.bool t8,.int .i64 t9,.int .i64 t10,.bool t11,.bool t12,.int .i64 t13,.slice Av t14.length cv] (fun k_=>k_≠w.heap.size∧k_≠w.heap.size+1∧k_≠w3.heap.size) (fun k_=>(k_≠w.heap.size∧k_≠w.heap.size+1∧k_≠w3.heap.size)∧some k_≠(Value.slice Au ks.length cu).ownBlock) rfl rfl ?aP (fun _ hk=>hk) ?aF ?aO HBb.out (z6q HBb.out) ?aL ?_;(case aP=>exact k70_mkM _ _ _ (⟨⟨t0,t1,⟨t2,t3,t4⟩,⟨t5,t6,t7,t8⟩,⟨t9,t10,t11,t12⟩,t13⟩,t14⟩:S70) (Kd.R_mono (Kd.R_lower HO2.out (Nat.le_of_lt (by have:=HZ.out;omega))) (fun k_ hk=>⟨⟨by have:=HZ.out;have:=hk.2.1;omega,by have:=HZ.out;have:=hk.2.1;omega,by have:=hk.2.2.1;omega⟩,hk.1.2⟩)));(case aF=>exact(fun k_ hk=>by have:=HZ.out;have:=HZ3.out;have:=z20q HX.out;omega));(case aO=>exact Kd.R_mono HO1.out (fun k_ hk=>⟨hk.1.1.1,hk.1.1.2,by have:=hk.2.2.1;omega⟩));(case aL=>have:=HC3.out;omega);intro v1 w4 ho hb hg hat;obtain⟨A1,ca,rfl⟩:=Kd.R_slice ho;simp only [List.length_append,List.length_cons,List.length_nil,Nat.zero_add]at ho;have HG8c:=Lib.hid (blk_grown HG8b.out hg (Kd.R_away HO1.out (fun _ hk=>hk.1.1.2)));have HG0c:=Lib.hid (blk_grown HG0b.out hg (Kd.R_away HO1.out (fun _ hk=>hk.1.1.1)));have hs14:=z1q HG8c.out 14;have hf14:=z0q HG8c.out 14;have HO3:=Lib.hid ho;have HB3:=Lib.hid hb;clear ho hb hg hat)|fail)
     go_roundg k1
     case measure=>have:=HK.out;omega
     case rel=>exact⟨t15,wrap64 (x9+1),_,_,rfl,(by first|rfl|(simp;done)),HA,Lib.hid (by have:=HK.out;omega),Lib.hid ((heap_setCell_other _ _ _ _ (Nat.ne_of_lt (Nat.lt_succ_self _))).trans HG0c.out),Lib.hid (z11q HG8c.out 14 _ rfl),Lib.hid (Kd.R_mono (Kd.R_far HO3.out (p:=⟨w.heap.size+1,14,none⟩) (fun _ hk=>hk.2.1) _) (fun _ hk=>⟨hk.1,hk.2.1⟩)),Lib.hid (z7q HB3.out (Nat.le_succ _))⟩
    ·rw [if_neg c3]at H;cases H
   ·rw [if_neg c1]at H
    have b1:decide (x9<n13)=false:=decide_eq_false c1
    clear c1
    simp only [Option.some.injEq,Prod.mk.injEq]at H
    obtain⟨rfl,rfl,rfl,rfl,rfl,rfl,rfl,rfl,rfl,rfl,rfl,rfl,rfl,rfl,rfl,rfl⟩:=H
    obtain⟨hx0,hx1,hx2,hx3,hx4,hx5,hx6,hx7,hx8,hx9,hx10,hx11,hx12,hx13,hx14⟩:=row15 HG8.out
    go_wp2_with (first|((with_reducible refine gate_store (t:=70) (p:=6) rfl ?_);refine wpList_store_row rfl 70 (.tmp 6) (.tmp 69) rfl w.heap.size #[.int .i64 n0,.string n1,.bool n2,.int .i64 n3,.int .i64 n4,.int .i64 n5,.int .i64 n6,.bool n7,.bool n8,.int .i64 n9,.int .i64 n10,.bool n11,.bool n12,.int .i64 n13,.slice Au ks.length cu] rfl rfl 70 #[.int .i64 0,.string (⟨#[]⟩:ByteArray),.bool false,.int .i64 0,.int .i64 0,.int .i64 0,.int .i64 0,.bool false,.bool false,.int .i64 0,.int .i64 0,.bool false,.bool false,.int .i64 0,.slice none 0 0] HG0.out (by kernel_rfl) rfl (by simp [Value.oneCell']) ?_)|fail)
    refine bodyPost_ret (results_ct rfl _ _ w.heap.size 70 #[.int .i64 n0,.string n1,.bool n2,.int .i64 n3,.int .i64 n4,.int .i64 n5,.int .i64 n6,.bool n7,.bool n8,.int .i64 n9,.int .i64 n10,.bool n11,.bool n12,.int .i64 n13,.slice Au ks.length cu] (0,0) _ rfl (setRow_heap _ _ _ _ _ _ HG0.out) Tryz.underlying70 rfl (by kernel_rfl)) rfl ?_
    exact⟨_,rfl,Kd.R_mono (setRow_R HO.out _ _ (fun _ hk=>hk.1)) (fun _ _=>trivial),setRow_below HB.out (Nat.le_refl _) _⟩
 ·rw [if_neg c3]at H;cases H

/-! ### spec_l3Max: function 83 -/

def spec_l3Max.f (a0:Int) (a1:Int):Option (Int):=if a0 > a1 then(some a0)else(some a1)

set_option maxHeartbeats 8000000 in
set_option maxRecDepth 100000 in
theorem spec_l3Max.calls (a0:Int) (a1:Int) (r:Int) (w:World) (h:spec_l3Max.f a0 a1=some r):
  Calls Tryz.prog 83 #[.int .i64 a0,.int .i64 a1] w fun e w'=>e= .returned (.int .i64 r)∧Drawn0 w w':=by
 have H:(if a0 > a1 then(some a0)else(some a1))=some r:=h
 clear h
 by_cases c3:a0 > a1
 ·rw [if_pos c3]at H
  have c3b0:decide (a1<a0)=true:=decide_eq_true c3
  clear c3
  obtain rfl:=Option.some.inj H
  go_enter Tryz.func83,Tryz.ntmps83
  go_wp2
  go_ret
  exact⟨by first|rfl|(simp;done)|(simp [*];done),by repeat(first|exact Drawn0.refl _|apply Drawn0.step)⟩
 ·rw [if_neg c3]at H
  have c3b0:decide (a1<a0)=false:=decide_eq_false c3
  clear c3
  obtain rfl:=Option.some.inj H
  go_enter Tryz.func83,Tryz.ntmps83
  go_wp2
  go_ret
  exact⟨by first|rfl|(simp;done)|(simp [*];done),by repeat(first|exact Drawn0.refl _|apply Drawn0.step)⟩



/-! ### spec_l4In: function 39 -/

def spec_l4In.l0:Nat→ByteArray→List ByteArray→Int→Int→Option (Bool)
 |0,_,_,_,_=>none
 |k+1,x1,x7,x8,x9=>if x9<x8 then(if 0≤x9 then(if x9<(x7.length:Int)then(if(rdOf ByteArray.empty x7 x9).toList=x1.toList then(some true)else(spec_l4In.l0 k x1 x7 x8 (wrap64 (x9+1))))else(none))else(none))else(some false)

def spec_l4In.f (k:Nat) (l0:List ByteArray) (a1:ByteArray):Option (Bool):=spec_l4In.l0 k a1 l0 (l0.length:Int) 0

set_option maxHeartbeats 8000000 in
set_option maxRecDepth 100000 in
theorem spec_l4In.calls (k:Nat) (A0:Option Addr) (c0:Nat) (l0:List ByteArray) (a1:ByteArray) (r:Bool) (w:World) (hr0:Kd.C Kd.string w A0 l0.length l0) (hc0:l0.length≤c0) (h:spec_l4In.f k l0 a1=some r):
  Calls Tryz.prog 39 #[.slice A0 l0.length c0,.string a1] w fun e w'=>e= .returned (.bool r)∧Drawn0 w w':=by
 have HR0:=Aside0.mk hr0
 have HC0:=Aside0.mk hc0
 clear hr0 hc0
 have H:(spec_l4In.l0 k a1 l0 (l0.length:Int) 0)=some r:=h
 clear h
 have H':=Aside0.mk H
 clear H
 go_enter Tryz.func39,Tryz.ntmps39
 go_wp2
 go_loopg [9] k (fun kq v9 w'=>∃ (x9_1:Int),v9= .int .i64 x9_1∧Aside0 (spec_l4In.l0 kq a1 l0 (l0.length:Int) x9_1=some r)∧Aside0 (kq≤k)∧Drawn0 w w')
 case atStart=>exact⟨(0),(by first|rfl|(simp;done)|(simp [*];done)|(simp;unfold wrap64;omega)),H',⟨Nat.le_refl _⟩,by repeat(first|exact Drawn0.refl _|apply Drawn0.step)⟩
 case round=>
  clear H'
  try clear p2
  obtain⟨x9_1,rfl,HA,HK1,⟨m1,rfl⟩⟩:=hrel
  cases gk with
  |zero=>exact absurd HA.out (by simp [spec_l4In.l0])
  |succ k1=>
   have H:=HA.out
   clear HA
   simp only [spec_l4In.l0]at H
   by_cases c3:x9_1<(l0.length:Int)
   ·rw [if_pos c3]at H
    have c3b0:decide (x9_1<(l0.length:Int))=true:=decide_eq_true c3
    clear c3
    by_cases c4:0≤x9_1
    ·rw [if_pos c4]at H
     have c4b0:decide (0≤x9_1)=true:=decide_eq_true c4
     clear c4
     by_cases c5:x9_1<(l0.length:Int)
     ·rw [if_pos c5]at H
      have c5b0:decide (x9_1<(l0.length:Int))=true:=decide_eq_true c5
      clear c5
      by_cases c6:(rdOf ByteArray.empty l0 x9_1).toList=a1.toList
      ·rw [if_pos c6]at H
       have c6b0:((rdOf ByteArray.empty l0 x9_1).toList==a1.toList)=true:=beq_iff_eq.mpr c6
       have c6b1:((rdOf ByteArray.empty l0 x9_1).toList !=a1.toList)=false:=bne_eq_false_iff_eq.mpr c6
       clear c6
       obtain rfl:=Option.some.inj H
       have p182:0≤(x9_1:Int):=of_decide_eq_true (by first|(with_reducible assumption)|assumption)
       have q182:x9_1<(l0.length:Int):=of_decide_eq_true (by first|(with_reducible assumption)|assumption)
       obtain⟨ad182,e182,hx182_0⟩:=Kd.at_string HR0.out x9_1 p182 q182
       cases e182
       replace p182:=eq_true p182
       replace q182:=eq_true q182
       go_wp2
       go_ret
       exact⟨by first|rfl|(simp;done)|(simp [*];done),by repeat(first|exact Drawn0.refl _|apply Drawn0.step)⟩
      ·rw [if_neg c6]at H
       have c6b0:((rdOf ByteArray.empty l0 x9_1).toList==a1.toList)=false:=beq_eq_false_iff_ne.mpr c6
       have c6b1:((rdOf ByteArray.empty l0 x9_1).toList !=a1.toList)=true:=bne_iff_ne.mpr c6
       have H':=Aside0.mk H
       clear H
       have p182:0≤(x9_1:Int):=of_decide_eq_true (by first|(with_reducible assumption)|assumption)
       have q182:x9_1<(l0.length:Int):=of_decide_eq_true (by first|(with_reducible assumption)|assumption)
       obtain⟨ad182,e182,hx182_0⟩:=Kd.at_string HR0.out x9_1 p182 q182
       cases e182
       replace p182:=eq_true p182
       replace q182:=eq_true q182
       go_wp2
       go_roundg k1
       case measure=>have:=HK1.out;omega
       case rel=>exact⟨(wrap64 (x9_1+1)),(by first|rfl|(simp;done)|(simp [*];done)|(simp;unfold wrap64;omega)),H',⟨by have:=HK1.out;omega⟩,by repeat(first|exact Drawn0.refl _|apply Drawn0.step)⟩
     ·rw [if_neg c5]at H
      exact absurd H (by simp)
    ·rw [if_neg c4]at H
     exact absurd H (by simp)
   ·rw [if_neg c3]at H
    have c3b0:decide (x9_1<(l0.length:Int))=false:=decide_eq_false c3
    clear c3
    obtain rfl:=Option.some.inj H
    go_wp2
    go_ret
    exact⟨by first|rfl|(simp;done)|(simp [*];done),by repeat(first|exact Drawn0.refl _|apply Drawn0.step)⟩



/-! ### spec_l4Upper: function 40 -/

theorem conv_at (s:ByteArray) (w:World):(convert 9 116 (.string s)).run Tryz.prog w= .ok (.slice (some ⟨w.heap.size,0,none⟩) s.size (grownCap w s.size 0 5)) (Lib.bytesWorld w 5 s):=
 Lib.run_convert_string_bytes w _ _ _ s Tryz.underlying9 Tryz.underlying116 Tryz.underlying5

/-- A byte in capitals. -/
def upI (v:Int):Int:=if 97≤v∧v≤122 then v-32 else v

def byI (s:ByteArray) (i:Nat):Int:=((s.data.toList.getD i 0).toNat:Int)

/-- A text in capitals. -/
def upS (s:ByteArray):ByteArray:=strOfNums ((List.range s.size).map fun i=>upI (byI s i))

/-- The row of bytes at the block g, its first bytes read by f. -/
def Row (s:ByteArray) (g:Nat) (w:World) (f:Nat→Int):Prop:=∃ (cs:Array Value) (N:Nat),w.heap[g]? =some (.cells cs 5 (N,N+1))∧s.size≤N∧∀ i,i<s.size→cs[i]? =some (.int .u8 (f i))

theorem Row.cell {s:ByteArray} {g:Nat} {w:World} {f:Nat→Int} (h:Row s g w f) {i:Nat} (hi:i<s.size):w.cell? ⟨g,i,none⟩=some (.int .u8 (f i)):=by
 obtain⟨cs,N,h1,h2,h3⟩:=h
 rw [cell_of_row w g i cs _ _ h1];exact h3 i hi

theorem Row.frozen {s:ByteArray} {g:Nat} {w:World} {f:Nat→Int} (h:Row s g w f) {i:Nat} (hi:i<s.size):w.frozen? ⟨g,i,none⟩=false:=by
 obtain⟨cs,N,h1,h2,h3⟩:=h
 simp [World.frozen?,h1];omega

theorem Row.put {s:ByteArray} {g:Nat} {w:World} {f f':Nat→Int} (h:Row s g w f) {j:Nat} (v:Int) (hv:f' j=v) (ho:∀ i,i≠j→f' i=f i):Row s g (w.setCell ⟨g,j,none⟩ (.int .u8 v)) f':=by
 obtain⟨cs,N,h1,h2,h3⟩:=h
 refine⟨cs.setIfInBounds j (.int .u8 v),N,by simp [World.setCell,Array.getElem?_modify,h1],h2,fun i hi=> ?_⟩
 have hsz:i<cs.size:=(Array.getElem?_eq_some_iff.1 (h3 i hi)).1
 rw [Array.getElem?_setIfInBounds]
 by_cases e:j=i
 ·subst e;rw [if_pos rfl,if_pos hsz,hv]
 ·rw [if_neg e,ho i (Ne.symm e)];exact h3 i hi

theorem Row.same {s:ByteArray} {g:Nat} {w:World} {f f':Nat→Int} (h:Row s g w f) (ho:∀ i,f' i=f i):Row s g w f':=by
 obtain⟨cs,N,h1,h2,h3⟩:=h
 exact⟨cs,N,h1,h2,fun i hi=>by rw [ho];exact h3 i hi⟩

theorem row_new (s:ByteArray) (w:World):Row s w.heap.size (Lib.bytesWorld w 5 s) (byI s):=by
 refine⟨_,_,Lib.bytesWorld_at_new w 5 s,?_,fun i hi=> ?_⟩
 ·simp [Lib.bytesCells]
 ·have:=Lib.bytesWorld_cell w 5 s i hi
  rw [cell_of_row _ _ i _ _ _ (Lib.bytesWorld_at_new w 5 s)]at this
  exact this

theorem below_bytes (w:World) (s:ByteArray):Below w.heap.size w (Lib.bytesWorld w 5 s):=by
 have h1:Below w.heap.size w (w.drew.alloc (.cells (Lib.bytesCells w 5 s) 5)):=z2q (z3q (Below.refl _ _) 1) _
 refine⟨h1.os,h1.tape,h1.output,?_,fun k hk=> ?_⟩
 ·rw [Lib.bytesWorld_size];omega
 ·exact Lib.bytesWorld_at_old w 5 s k hk

theorem conv_back {s:ByteArray} {g:Nat} {w:World} {f:Nat→Int} (h:Row s g w f) (hs:s.size≤9223372036854775807) (c:Nat):(convert 116 9 (.slice (some ⟨g,0,none⟩) s.size c)).run Tryz.prog w= .ok (.string (strOfNums ((List.range s.size).map f))) w:=by
 refine string_of_reads Tryz.underlying116 Tryz.underlying5 Tryz.underlying9 ⟨by simp,hs,fun _=>⟨_,rfl,fun j hj=> ?_⟩⟩
 have e:(Addr.add ⟨g,0,none⟩ j)=⟨g,j,none⟩:=by simp [Addr.add];intro h;exact h.symm
 rw [e,h.cell hj]
 simp [List.getD_eq_getElem?_getD,hj]

def upTo (s:ByteArray) (j:Nat) (i:Nat):Int:=if i<j then upI (byI s i)else byI s i

theorem byI_le (s:ByteArray) (i:Nat):0≤byI s i∧byI s i≤255:=by
 unfold byI;have:=(s.data.toList.getD i 0).toNat_lt;omega


set_option maxHeartbeats 4000000 in
theorem l4Upper_calls (s:ByteArray) (hs:s.size≤1048576) (w:World):
  Calls Tryz.prog 40 #[.string s] w fun e w'=>e= .returned (.string (upS s))∧Below w.heap.size w w':=by
 have hcv:=conv_at s
 have hr:=row_new s w
 have hb:=below_bytes w s
 have HR:=Lib.hid hr;have HB:=Lib.hid hb;clear hr hb
 go_enter Tryz.func40,Tryz.ntmps40
 go_wp2_with fail
 go_loopw [10] (fun i w'=>∃ j:Nat,j≤s.size∧i= .int .i64 j∧Hid (Below w.heap.size w w')∧Hid (Row s w.heap.size w' (upTo s j))) (fun i _=>s.size-(intOf i).toNat)
 case atStart=>exact⟨0,Nat.zero_le _,rfl,HB.out,HR.out.same fun i=>by simp [upTo]⟩
 case round=>
  obtain⟨j,hj,rfl,hbw,hrow⟩:=hrel
  by_cases hlt:j<s.size
  ·have hcell:=hrow.out.cell hlt
   have hfz:=hrow.out.frozen hlt
   have e0:upTo s j j=byI s j:=by unfold upTo;rw [if_neg (by omega)]
   rw [e0]at hcell
   obtain⟨v0,v1⟩:=byI_le s j
   have hput:∀ i,i≠j→upTo s (j+1) i=upTo s j i:=fun i hi=>by
    unfold upTo;by_cases h1:i<j
    ·rw [if_pos h1,if_pos (by omega)]
    ·rw [if_neg h1,if_neg (by omega)]
   have hat:upTo s (j+1) j=upI (byI s j):=by unfold upTo;rw [if_pos (by omega)]
   have HP:=Lib.hid hput;have HA:=Lib.hid hat;have HE0:=Lib.hid e0;clear hput hat e0
   by_cases h1:97≤byI s j
   ·have b1:decide (byI s j≥97)=true:=decide_eq_true h1
    by_cases h2:byI s j≤122
    ·have b2:decide (byI s j≤122)=true:=decide_eq_true h2
     go_wp2_with fail
     go_roundw
     case rel=>exact⟨j+1,by omega,by go_num,Below.setCell hbw.out (p:=⟨w.heap.size,j,none⟩) (Nat.le_refl _) _,hrow.out.put _ (by rw [HA.out];unfold upI;rw [if_pos ⟨h1,h2⟩]) HP.out⟩
     case measure=>simp [intOf];omega
    ·have b2:decide (byI s j≤122)=false:=decide_eq_false h2
     go_wp2_with fail
     go_roundw
     case rel=>exact⟨j+1,by omega,by go_num,hbw.out,Row.same (f':=upTo s (j+1)) hrow.out fun i=>by
      by_cases e:i=j
      ·subst e;rw [HA.out,HE0.out];unfold upI;rw [if_neg (by omega)]
      ·exact HP.out i e⟩
     case measure=>simp [intOf];omega
   ·have b1:decide (byI s j≥97)=false:=decide_eq_false h1
    go_wp2_with fail
    go_roundw
    case rel=>exact⟨j+1,by omega,by go_num,hbw.out,Row.same (f':=upTo s (j+1)) hrow.out fun i=>by
      by_cases e:i=j
      ·subst e;rw [HA.out,HE0.out];unfold upI;rw [if_neg (by omega)]
      ·exact HP.out i e⟩
    case measure=>simp [intOf];omega
  ·obtain rfl:j=s.size:=by omega
   have hcb:=conv_back hrow.out (show s.size≤9223372036854775807 by omega)
   have hup:strOfNums ((List.range s.size).map (upTo s s.size))=upS s:=by
    unfold upS;congr 1
    refine List.map_congr_left fun i hi=> ?_
    unfold upTo;rw [if_pos (List.mem_range.1 hi)]
   rw [hup]at hcb
   clear hup
   go_wp2_with fail
   go_ret
   exact⟨rfl,hbw.out⟩

def spec_l4Upper.f (a0:ByteArray):Option ByteArray:=if a0.size≤1048576 then some (upS a0)else none

theorem spec_l4Upper.calls (a0:ByteArray) (r:ByteArray) (w:World) (h:spec_l4Upper.f a0=some r):
  Calls Tryz.prog 40 #[.string a0] w fun e w'=>e= .returned (.string r)∧Below w.heap.size w w':=by
 unfold spec_l4Upper.f at h
 by_cases hs:a0.size≤1048576
 ·rw [if_pos hs]at h
  obtain rfl:=Option.some.inj h
  exact l4Upper_calls a0 hs w
 ·rw [if_neg hs]at h;cases h



/-! ### spec_GoodRef: function 44 -/

def spec_GoodRef.f (a0_0:Int) (a0_1:Int) (a0_2:Bool) (a0_3:Bool):Option (Bool):=if a0_0≥1 then(if a0_0≤1000 then(if a0_1≥1 then(some (decide (a0_1≤200)))else(some false))else(some false))else(some false)

end Go.Proofs.YtegdpgpbdcediaaGreatDoor.PFnExactUsedNames
