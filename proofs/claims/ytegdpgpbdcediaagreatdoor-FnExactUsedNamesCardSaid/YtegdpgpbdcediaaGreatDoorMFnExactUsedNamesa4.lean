/- Functions of the program as Lean functions, and proofs that the Go code comes to their answers: for the law FnExactUsedNames; made out of the print by a program of mine (compact.py). No conditions but each theorem's own. -/
import Derived.Test.YtegdpgpbdcediaaGreatDoorMFnExactUsedNamesa0
import Derived.Test.YtegdpgpbdcediaaGreatDoorMFnExactUsedNamesa2
import Derived.Test.YtegdpgpbdcediaaGreatDoorMFnExactUsedNamesa3
namespace Go.Proofs.YtegdpgpbdcediaaGreatDoor.PFnExactUsedNames
open List (map_toArray map_cons map_nil length_drop length_take set_cons_zero set_cons_succ setIfInBounds_toArray)
open Go.RowKit Go.Proofs.YtegdpgpbdcediaaGreatDoorW.PrintWords Go.Proofs.YtegdpgpbdcediaaGreatDoorW.PrintLast Go.Proofs.YtegdpgpbdcediaaGreatDoorW.PrintMore
attribute [local go_sem] max2_int min2_int max_two min_two max_three min_three max_four min_four   -- for this text's walks alone
set_option linter.unusedVariables false
set_option linter.unusedSimpArgs false

attribute [local go_sem high] eqA47 eqA65
set_option maxHeartbeats 8000000 in
set_option maxRecDepth 100000 in
theorem spec_l2Number.calls (k:Nat) (a0:ByteArray) (r:Int) (w:World) (h:spec_l2Number.f k a0=some r):
  Calls Tryz.prog 117 #[.string a0] w fun e w'=>e= .returned (.int .i64 r)∧Drawn0 w w':=by
 have H:(if(a0.size:Int)<1 then(spec_l2Number.j0 k a0 true)else(spec_l2Number.j0 k a0 (decide ((a0.size:Int) > 6))))=some r:=h
 clear h
 have HC2:=Aside0.mk H
 clear H
 go_enter Tryz.func117,Tryz.ntmps117
 go_upto_region 1 with (fail)
 go_cut [12] (fun v12 wc=>∃ (kq:Nat) (x12_1:Bool),v12= .bool x12_1∧Aside0 (spec_l2Number.j0 kq a0 x12_1=some r)∧Aside0 (kq≤k)∧Drawn0 w wc)
 case first=>
  have H:=HC2.out
  clear HC2
  by_cases c3:(a0.size:Int)<1
  ·rw [if_pos c3]at H
   have c3b0:decide ((a0.size:Int)<1)=true:=decide_eq_true c3
   have c3b1:decide (a0.size<1)=true:=decide_eq_true (by omega)
   clear c3
   (first|rw [c3b0]|(simp only [i64_w,i32_w];rw [c3b0])|skip)
   have H':=Aside0.mk H
   clear H
   go_wp2
   go_meet
   case rel=>exact⟨_,(true),(by first|rfl|(simp;done)|(simp [*];done)|(simp;unfold wrap64;omega)),H',⟨by first|omega|exact Nat.le_refl _⟩,by repeat(first|exact Drawn0.refl _|apply Drawn0.step)⟩
  ·rw [if_neg c3]at H
   have c3b0:decide ((a0.size:Int)<1)=false:=decide_eq_false c3
   have c3b1:decide (a0.size<1)=false:=decide_eq_false (by omega)
   clear c3
   (first|rw [c3b0]|(simp only [i64_w,i32_w];rw [c3b0])|skip)
   have H':=Aside0.mk H
   clear H
   go_wp2
   go_meet
   case rel=>exact⟨_,(decide ((a0.size:Int) > 6)),(by first|rfl|(simp;done)|(simp [*];done)|(simp;unfold wrap64;omega)),H',⟨by first|omega|exact Nat.le_refl _⟩,by repeat(first|exact Drawn0.refl _|apply Drawn0.step)⟩
 case rest=>
  clear HC2
  try clear c1
  try clear p2
  try clear c3
  try clear c3b0
  try clear c3b1
  obtain⟨kq,x12_1,rfl,HA,HJ1,⟨mc1,rfl⟩⟩:=hcut
  cases kq with
  |zero=>exact absurd HA.out (by simp [spec_l2Number.j0])
  |succ kj1=>
   have H:=HA.out
   clear HA
   simp only [spec_l2Number.j0]at H
   by_cases c4:x12_1=true
   ·subst c4
    have H1:(some (-1))=some r:=by rw [if_pos rfl]at H;exact H
    clear H
    have H:=H1
    clear H1
    obtain rfl:=Option.some.inj H
    go_wp2
    go_ret
    exact⟨by first|rfl|(simp;done)|(simp [*];done),by repeat(first|exact Drawn0.refl _|apply Drawn0.step)⟩
   ·replace c4:=Bool.eq_false_iff.mpr c4
    subst c4
    have H1:(spec_l2Number.l0 kj1 a0 0 0)=some r:=by rw [if_neg (show ¬ (false=true)by decide)]at H;exact H
    clear H
    have H:=H1
    clear H1
    have H':=Aside0.mk H
    clear H
    go_wp2
    go_loopg [3,4] kj1 (fun kq v3 v4 w'=>∃ (x3_2:Int) (x4_2:Int),v3= .int .i64 x3_2∧v4= .int .i64 x4_2∧Aside0 (spec_l2Number.l0 kq a0 x3_2 x4_2=some r)∧Aside0 (kq≤kj1)∧Drawn0 w w')
    case atStart=>exact⟨(0),(0),(by first|rfl|(simp;done)|(simp [*];done)|(simp;unfold wrap64;omega)),(by first|rfl|(simp;done)|(simp [*];done)|(simp;unfold wrap64;omega)),H',⟨Nat.le_refl _⟩,by repeat(first|exact Drawn0.refl _|apply Drawn0.step)⟩
    case round=>
     clear H'
     try clear c1
     try clear p2
     try clear c3
     try clear c3b0
     try clear c3b1
     try clear c4
     try clear p2
     obtain⟨x3_2,x4_2,rfl,rfl,HA,HK2,⟨m2,rfl⟩⟩:=hrel
     cases gk with
     |zero=>exact absurd HA.out (by simp [spec_l2Number.l0])
     |succ k2=>
      have H:=HA.out
      clear HA
      simp only [spec_l2Number.l0]at H
      by_cases c5:x4_2<(a0.size:Int)
      ·rw [if_pos c5]at H
       have c5b0:decide (x4_2<(a0.size:Int))=true:=decide_eq_true c5
       clear c5
       by_cases c6:0≤x4_2
       ·rw [if_pos c6]at H
        have c6b0:decide (0≤x4_2)=true:=decide_eq_true c6
        clear c6
        replace H:=Option.bind_eq_some_iff.mp H
        obtain⟨t196,A80,H⟩:=H
        replace H:(if t196=true then(spec_l2Number.l0 k2 a0 (wrap64 ((wrap64 (x3_2*10))+(((bt a0 x4_2)-48) % 256))) (wrap64 (x4_2+1)))else(some (-1)))=some r:=H
        have A8:=Aside0.mk A80
        clear A80
        by_cases c9:t196=true
        ·subst c9
         have H1:(spec_l2Number.l0 k2 a0 (wrap64 ((wrap64 (x3_2*10))+(((bt a0 x4_2)-48) % 256))) (wrap64 (x4_2+1)))=some r:=by rw [if_pos rfl]at H;exact H
         clear H
         have H:=H1
         clear H1
         have H':=Aside0.mk H
         clear H
         have p7:0≤(x4_2:Int):=of_decide_eq_true (by first|(with_reducible assumption)|assumption)
         have q7:x4_2<(a0.size:Int):=of_decide_eq_true (by first|(with_reducible assumption)|assumption)
         have hx7:=bt_at a0 x4_2
         replace p7:=eq_true p7
         replace q7:=eq_true q7
         go_wp2_with (first|((with_reducible refine z8q (f:=134) rfl ?_);refine z17q (some 22) rfl rfl Tryz.func134 (by kernel_rfl) rfl #[.int .u8 (bt a0 x4_2)] rfl (by(try simp only [map_toArray,map_cons,map_nil]);first|done|rfl|(simp only [length_drop,length_take];rfl)) ?_;(with_reducible refine(spec_l1Digit.calls (bt a0 x4_2) true _ A8.out).mono ?_);rintro e w' ⟨rfl,⟨nd,rfl⟩⟩;refine⟨_,rfl,?_⟩;have p10:0≤(x4_2:Int):=of_decide_eq_true (by first|(with_reducible assumption)|assumption);have q10:x4_2<(a0.size:Int):=of_decide_eq_true (by first|(with_reducible assumption)|assumption);have hx10:=bt_at a0 x4_2;replace p10:=eq_true p10;replace q10:=eq_true q10))
         go_roundg k2
         case measure=>have:=HJ1.out;have:=HK2.out;omega
         case rel=>exact⟨(wrap64 ((wrap64 (x3_2*10))+(((bt a0 x4_2)-48) % 256))),(wrap64 (x4_2+1)),(by first|rfl|(simp;done)|(simp [*];done)|(simp;unfold wrap64;omega)),(by first|rfl|(simp;done)|(simp [*];done)|(simp;unfold wrap64;omega)),H',⟨by have:=HJ1.out;have:=HK2.out;omega⟩,by repeat(first|exact Drawn0.refl _|apply Drawn0.step)⟩
        ·replace c9:=Bool.eq_false_iff.mpr c9
         subst c9
         have H1:(some (-1))=some r:=by rw [if_neg (show ¬ (false=true)by decide)]at H;exact H
         clear H
         have H:=H1
         clear H1
         obtain rfl:=Option.some.inj H
         have p7:0≤(x4_2:Int):=of_decide_eq_true (by first|(with_reducible assumption)|assumption)
         have q7:x4_2<(a0.size:Int):=of_decide_eq_true (by first|(with_reducible assumption)|assumption)
         have hx7:=bt_at a0 x4_2
         replace p7:=eq_true p7
         replace q7:=eq_true q7
         go_wp2_with (first|((with_reducible refine z8q (f:=134) rfl ?_);refine z17q (some 22) rfl rfl Tryz.func134 (by kernel_rfl) rfl #[.int .u8 (bt a0 x4_2)] rfl (by(try simp only [map_toArray,map_cons,map_nil]);first|done|rfl|(simp only [length_drop,length_take];rfl)) ?_;(with_reducible refine(spec_l1Digit.calls (bt a0 x4_2) false _ A8.out).mono ?_);rintro e w' ⟨rfl,⟨nd,rfl⟩⟩;refine⟨_,rfl,?_⟩))
         go_ret
         exact⟨by first|rfl|(simp;done)|(simp [*];done),by repeat(first|exact Drawn0.refl _|apply Drawn0.step)⟩
       ·rw [if_neg c6]at H
        exact absurd H (by simp)
      ·rw [if_neg c5]at H
       have c5b0:decide (x4_2<(a0.size:Int))=false:=decide_eq_false c5
       clear c5
       obtain rfl:=Option.some.inj H
       go_wp2
       go_ret
       exact⟨by first|rfl|(simp;done)|(simp [*];done),by repeat(first|exact Drawn0.refl _|apply Drawn0.step)⟩



/-! ### spec_ColName: function 165 -/

mutual
def spec_ColName.j0:Nat→Int→Bool→Option (ByteArray)
 |0,_,_=>none
 |k+1,x0,x9=>if x9=true then(some (⟨#[]⟩:ByteArray))else(spec_ColName.l0 k x0 (⟨#[]⟩:ByteArray))
def spec_ColName.l0:Nat→Int→ByteArray→Option (ByteArray)
 |0,_,_=>none
 |k+1,x0,x3=>if x0 > 0 then((some (([(wrap64 (65+(Int.tmod (wrap64 (x0-1)) 26))) % 256]:List Int):List Int)).bind fun y197=>(if(strOfNums y197).size+x3.size≤9223372036854775807 then(spec_ColName.l0 k (wrap64 (Int.tdiv (wrap64 (x0-1)) 26)) ((strOfNums y197) ++ x3))else(none)))else(some x3)
end

def spec_ColName.f (k:Nat) (a0:Int):Option (ByteArray):=if a0<1 then(spec_ColName.j0 k a0 true)else(spec_ColName.j0 k a0 (decide (a0 > 200)))

theorem spec_ColName.mono_l:∀ k,(∀ y0 y1,LeO (spec_ColName.j0 k y0 y1) (spec_ColName.j0 (k+1) y0 y1))∧(∀ y0 y1,LeO (spec_ColName.l0 k y0 y1) (spec_ColName.l0 (k+1) y0 y1))
 |0=>⟨fun _ _ r h=>by simp [spec_ColName.j0]at h,fun _ _ r h=>by simp [spec_ColName.l0]at h⟩
 |k+1=>by
  obtain⟨ih0,ih1⟩:=spec_ColName.mono_l k
  refine⟨?_,?_⟩
  ·intro y0 y1
   unfold spec_ColName.j0
   repeat' first
   |(with_reducible exact ih0 _ _)
   |(with_reducible exact ih1 _ _)
   |(with_reducible exact LeO.refl _)
   |(with_reducible exact LeO.none _)
   |(with_reducible refine LeO.ite ?_ ?_)
   |(with_reducible refine LeO.bind ?_ (fun _=> ?_))
   |exact ih0 _ _
   |exact ih1 _ _
   |exact LeO.none _
   |refine LeO.ite ?_ ?_
   |refine LeO.bind ?_ (fun _=> ?_)
  ·intro y0 y1
   unfold spec_ColName.l0
   repeat' first
   |(with_reducible exact ih0 _ _)
   |(with_reducible exact ih1 _ _)
   |(with_reducible exact LeO.refl _)
   |(with_reducible exact LeO.none _)
   |(with_reducible refine LeO.ite ?_ ?_)
   |(with_reducible refine LeO.bind ?_ (fun _=> ?_))
   |exact ih0 _ _
   |exact ih1 _ _
   |exact LeO.none _
   |refine LeO.ite ?_ ?_
   |refine LeO.bind ?_ (fun _=> ?_)

theorem spec_ColName.mono:∀ a0 k,LeO (spec_ColName.f k a0) (spec_ColName.f (k+1) a0):=by
 intro a0 k
 obtain⟨ih0,ih1⟩:=spec_ColName.mono_l k
 unfold spec_ColName.f
 repeat' first
   |(with_reducible exact ih0 _ _)
   |(with_reducible exact ih1 _ _)
   |(with_reducible exact LeO.refl _)
   |(with_reducible exact LeO.none _)
   |(with_reducible refine LeO.ite ?_ ?_)
   |(with_reducible refine LeO.bind ?_ (fun _=> ?_))
   |exact ih0 _ _
   |exact ih1 _ _
   |exact LeO.none _
   |refine LeO.ite ?_ ?_
   |refine LeO.bind ?_ (fun _=> ?_)

set_option maxHeartbeats 8000000 in
set_option maxRecDepth 100000 in
theorem spec_ColName.calls (k:Nat) (a0:Int) (r:ByteArray) (w:World) (h:spec_ColName.f k a0=some r):
  Calls Tryz.prog 165 #[.int .i64 a0] w fun e w'=>e= .returned (.string r)∧Below w.heap.size w w':=by
 have HB:=Aside0.mk (Below.refl w.heap.size w)
 have H:(if a0<1 then(spec_ColName.j0 k a0 true)else(spec_ColName.j0 k a0 (decide (a0 > 200))))=some r:=h
 clear h
 have HC2:=Aside0.mk H
 clear H
 go_enter Tryz.func165,Tryz.ntmps165
 go_upto_region 1 with (fail)
 go_cut [9] (fun v9 wc=>∃ (kq:Nat) (x9_1:Bool),v9= .bool x9_1∧Aside0 (spec_ColName.j0 kq a0 x9_1=some r)∧Aside0 (kq≤k)∧Aside0 (Below w.heap.size w wc))
 case first=>
  have H:=HC2.out
  clear HC2
  by_cases c3:a0<1
  ·rw [if_pos c3]at H
   have c3b0:decide (a0<1)=true:=decide_eq_true c3
   clear c3
   (first|rw [c3b0]|(simp only [i64_w,i32_w];rw [c3b0])|skip)
   have H':=Aside0.mk H
   clear H
   go_wp2
   go_meet
   case rel=>exact⟨_,(true),(by first|rfl|(simp;done)|(simp [*];done)|(simp;unfold wrap64;omega)),H',⟨by first|omega|exact Nat.le_refl _⟩,⟨by repeat(first|(with_reducible first|exact HB.out|apply z2q|apply z3q|apply z4q)|exact HB.out)⟩⟩
  ·rw [if_neg c3]at H
   have c3b0:decide (a0<1)=false:=decide_eq_false c3
   clear c3
   (first|rw [c3b0]|(simp only [i64_w,i32_w];rw [c3b0])|skip)
   have H':=Aside0.mk H
   clear H
   go_wp2
   go_meet
   case rel=>exact⟨_,(decide (a0 > 200)),(by first|rfl|(simp;done)|(simp [*];done)|(simp;unfold wrap64;omega)),H',⟨by first|omega|exact Nat.le_refl _⟩,⟨by repeat(first|(with_reducible first|exact HB.out|apply z2q|apply z3q|apply z4q)|exact HB.out)⟩⟩
 case rest=>
  clear HC2
  try clear c1
  try clear p2
  try clear c3
  try clear c3b0
  obtain⟨kq,x9_1,rfl,HA,HJ1,HB⟩:=hcut
  cases kq with
  |zero=>exact absurd HA.out (by simp [spec_ColName.j0])
  |succ kj1=>
   have H:=HA.out
   clear HA
   simp only [spec_ColName.j0]at H
   by_cases c4:x9_1=true
   ·subst c4
    have H1:(some (⟨#[]⟩:ByteArray))=some r:=by rw [if_pos rfl]at H;exact H
    clear H
    have H:=H1
    clear H1
    obtain rfl:=Option.some.inj H
    go_wp2
    go_ret
    exact⟨by first|rfl|(simp [errW_none,errW_some]<;>rfl)|(simp [*,errW_none,errW_some]<;>rfl),by repeat(first|(with_reducible first|exact HB.out|apply z2q|apply z3q|apply z4q)|exact HB.out)⟩
   ·replace c4:=Bool.eq_false_iff.mpr c4
    subst c4
    have H1:(spec_ColName.l0 kj1 a0 (⟨#[]⟩:ByteArray))=some r:=by rw [if_neg (show ¬ (false=true)by decide)]at H;exact H
    clear H
    have H:=H1
    clear H1
    have H':=Aside0.mk H
    clear H
    go_wp2
    go_loopg [0,3] kj1 (fun kq v0 v3 w'=>∃ (x0_2:Int) (x3_2:ByteArray),v0= .int .i64 x0_2∧v3= .string x3_2∧Aside0 (spec_ColName.l0 kq x0_2 x3_2=some r)∧Aside0 (kq≤kj1)∧Aside0 (Below w.heap.size w w'))
    case atStart=>exact⟨(a0),((⟨#[]⟩:ByteArray)),(by first|rfl|(simp;done)|(simp [*];done)|(simp;unfold wrap64;omega)),(by first|rfl|(simp;done)|(simp [*];done)|(simp;unfold wrap64;omega)),H',⟨Nat.le_refl _⟩,⟨by repeat(first|(with_reducible first|exact HB.out|apply z2q|apply z3q|apply z4q)|exact HB.out)⟩⟩
    case round=>
     clear H'
     try clear c1
     try clear p2
     try clear c3
     try clear c3b0
     try clear c4
     try clear p2
     obtain⟨x0_2,x3_2,rfl,rfl,HA,HK2,HB⟩:=hrel
     cases gk with
     |zero=>exact absurd HA.out (by simp [spec_ColName.l0])
     |succ k2=>
      have H:=HA.out
      clear HA
      simp only [spec_ColName.l0]at H
      by_cases c5:x0_2 > 0
      ·rw [if_pos c5]at H
       have c5b0:decide (0<x0_2)=true:=decide_eq_true c5
       clear c5
       obtain⟨y197,hy197⟩:∃ y_:List Int,y_=(([(wrap64 (65+(Int.tmod (wrap64 (x0_2-1)) 26))) % 256]:List Int)):=⟨_,rfl⟩
       replace H:(if(strOfNums y197).size+x3_2.size≤9223372036854775807 then(spec_ColName.l0 k2 (wrap64 (Int.tdiv (wrap64 (x0_2-1)) 26)) ((strOfNums y197) ++ x3_2))else(none))=some r:=by first|(rw [hy197];with_reducible exact H)|(have H2_:=(Option.bind_some _ _).symm.trans H;rw [hy197];with_reducible exact H2_)|(have H2_:=(Option.bind_some _ _).symm.trans H;with_reducible exact H2_)|with_reducible exact H|(rw [hy197];exact H)|exact H
       have Ny197:=Aside0.mk hy197
       clear hy197
       by_cases c6:(strOfNums y197).size+x3_2.size≤9223372036854775807
       ·rw [if_pos c6]at H
        have c6b0:=eq_true c6
        have c6b1:decide ((strOfNums y197).size+x3_2.size≤9223372036854775807)=true:=decide_eq_true c6
        try have c6b2:(9223372036854775807<(strOfNums y197).size+x3_2.size)=False:=eq_false (Nat.not_lt.2 c6)
        have H':=Aside0.mk H
        clear H
        go_wp2_with (first|((with_reducible refine z15q (N:=18) rfl ?_);refine Kd.R_lit (Kd.int .u8) _ 5 ?hg (N:=18) ?hd (xs:=([(wrap64 (65+(Int.tmod (wrap64 (x0_2-1)) 26))) % 256]:List Int)) (inner:= [.int .u8 ((wrap64 (65+(Int.tmod (wrap64 (x0_2-1)) 26))) % 256)]) (ok:=fun _=>True) (okp:=fun _=>True) ?hr ?hp (fun _ hk=>hk) trivial (Below.refl _ _) (Nat.le_refl _) (by simp) ?_;(case hd=>rfl);(case hg=>rfl);(case hr=>first|(go_simp;done)|(go_simp;rfl));(case hp=>exact(Reps.one (show Kd.M (Kd.int .u8) _ _ _ ((wrap64 (65+(Int.tmod (wrap64 (x0_2-1)) 26))) % 256) [.int .u8 ((wrap64 (65+(Int.tmod (wrap64 (x0_2-1)) 26))) % 256)]from rfl) (Reps.none _ _)));intro v198 w7 ho8 hb hg_ hnew_;clear hg_ hnew_;(first|rw [←Ny197.out]at ho8|(simp only [Int.reduceToNat]at ho8;rw [←Ny197.out]at ho8));have n0_:=Aside0.mk (Kd.R_lower ho8 (z6q (ibh HB.out)));have n1_:=Aside0.mk (z5q (ibh HB.out) hb);clear HB;have HO199:=n0_;have HB:=n1_;clear n0_ n1_;clear hb ho8;have hcv9:=own_string (P:=Tryz.prog) Tryz.underlying116 Tryz.underlying5 Tryz.underlying9 (Kd.own_of_R HO199.out)))
        go_roundg k2
        case measure=>have:=HJ1.out;have:=HK2.out;omega
        case rel=>exact⟨(wrap64 (Int.tdiv (wrap64 (x0_2-1)) 26)),((strOfNums y197) ++ x3_2),(by first|rfl|(simp;done)|(simp [*];done)|(simp;unfold wrap64;omega)),(by first|rfl|(simp;done)|(simp [*];done)|(simp;unfold wrap64;omega)),H',⟨by have:=HJ1.out;have:=HK2.out;omega⟩,⟨by repeat(first|(with_reducible first|exact HB.out|apply z2q|apply z3q|apply z4q)|exact HB.out)⟩⟩
       ·rw [if_neg c6]at H
        exact absurd H (by simp)
      ·rw [if_neg c5]at H
       have c5b0:decide (0<x0_2)=false:=decide_eq_false c5
       clear c5
       obtain rfl:=Option.some.inj H
       go_wp2
       go_ret
       exact⟨by first|rfl|(simp [errW_none,errW_some]<;>rfl)|(simp [*,errW_none,errW_some]<;>rfl),by repeat(first|(with_reducible first|exact HB.out|apply z2q|apply z3q|apply z4q)|exact HB.out)⟩



/-! ### spec_ColNumber: function 148 -/

mutual
def spec_ColNumber.l0:Nat→ByteArray→Int→Int→Option (Int)
 |0,_,_,_=>none
 |k+1,x0,x3,x4=>if x4<(x0.size:Int)then(spec_ColNumber.j1 k x0 x3 x4 (decide (x4<4)))else(spec_ColNumber.j1 k x0 x3 x4 false)
def spec_ColNumber.j1:Nat→ByteArray→Int→Int→Bool→Option (Int)
 |0,_,_,_,_=>none
 |k+1,x0,x3,x4,x12=>if x12=true then(if 0≤x4 then(if x4<(x0.size:Int)then(if(bt x0 x4)<65 then(some 0)else(if(bt x0 x4) > 90 then(some 0)else(spec_ColNumber.l0 k x0 (wrap64 ((wrap64 ((wrap64 (x3*26))+(((bt x0 x4)-65) % 256)))+1)) (wrap64 (x4+1)))))else(none))else(none))else((spec_ColName.f k x3).bind fun t200=>(if t200.toList=x0.toList then(some x3)else(some 0)))
end

def spec_ColNumber.f (k:Nat) (a0:ByteArray):Option (Int):=spec_ColNumber.l0 k a0 0 0

theorem spec_ColNumber.mono_l:∀ k,(∀ y0 y1 y2,LeO (spec_ColNumber.l0 k y0 y1 y2) (spec_ColNumber.l0 (k+1) y0 y1 y2))∧(∀ y0 y1 y2 y3,LeO (spec_ColNumber.j1 k y0 y1 y2 y3) (spec_ColNumber.j1 (k+1) y0 y1 y2 y3))
 |0=>⟨fun _ _ _ r h=>by simp [spec_ColNumber.l0]at h,fun _ _ _ _ r h=>by simp [spec_ColNumber.j1]at h⟩
 |k+1=>by
  obtain⟨ih0,ih1⟩:=spec_ColNumber.mono_l k
  refine⟨?_,?_⟩
  ·intro y0 y1 y2
   unfold spec_ColNumber.l0
   repeat' first
   |(with_reducible exact ih0 _ _ _)
   |(with_reducible exact ih1 _ _ _ _)
   |(with_reducible exact spec_ColName.mono _ _)
   |(with_reducible exact LeO.refl _)
   |(with_reducible exact LeO.none _)
   |(with_reducible refine LeO.ite ?_ ?_)
   |(with_reducible refine LeO.bind ?_ (fun _=> ?_))
   |exact ih0 _ _ _
   |exact ih1 _ _ _ _
   |exact spec_ColName.mono _ _
   |exact LeO.none _
   |refine LeO.ite ?_ ?_
   |refine LeO.bind ?_ (fun _=> ?_)
  ·intro y0 y1 y2 y3
   unfold spec_ColNumber.j1
   repeat' first
   |(with_reducible exact ih0 _ _ _)
   |(with_reducible exact ih1 _ _ _ _)
   |(with_reducible exact spec_ColName.mono _ _)
   |(with_reducible exact LeO.refl _)
   |(with_reducible exact LeO.none _)
   |(with_reducible refine LeO.ite ?_ ?_)
   |(with_reducible refine LeO.bind ?_ (fun _=> ?_))
   |exact ih0 _ _ _
   |exact ih1 _ _ _ _
   |exact spec_ColName.mono _ _
   |exact LeO.none _
   |refine LeO.ite ?_ ?_
   |refine LeO.bind ?_ (fun _=> ?_)

theorem spec_ColNumber.mono:∀ a0 k,LeO (spec_ColNumber.f k a0) (spec_ColNumber.f (k+1) a0):=by
 intro a0 k
 obtain⟨ih0,ih1⟩:=spec_ColNumber.mono_l k
 unfold spec_ColNumber.f
 repeat' first
   |(with_reducible exact ih0 _ _ _)
   |(with_reducible exact ih1 _ _ _ _)
   |(with_reducible exact spec_ColName.mono _ _)
   |(with_reducible exact LeO.refl _)
   |(with_reducible exact LeO.none _)
   |(with_reducible refine LeO.ite ?_ ?_)
   |(with_reducible refine LeO.bind ?_ (fun _=> ?_))
   |exact ih0 _ _ _
   |exact ih1 _ _ _ _
   |exact spec_ColName.mono _ _
   |exact LeO.none _
   |refine LeO.ite ?_ ?_
   |refine LeO.bind ?_ (fun _=> ?_)

set_option maxHeartbeats 8000000 in
set_option maxRecDepth 100000 in
theorem spec_ColNumber.calls (k:Nat) (a0:ByteArray) (r:Int) (w:World) (h:spec_ColNumber.f k a0=some r):
  Calls Tryz.prog 148 #[.string a0] w fun e w'=>e= .returned (.int .i64 r)∧Below w.heap.size w w':=by
 have HB:=Aside0.mk (Below.refl w.heap.size w)
 have H:(spec_ColNumber.l0 k a0 0 0)=some r:=h
 clear h
 have H':=Aside0.mk H
 clear H
 go_enter Tryz.func148,Tryz.ntmps148
 go_wp2
 go_loopg [3,4] k (fun kq v3 v4 w'=>∃ (x3_1:Int) (x4_1:Int),v3= .int .i64 x3_1∧v4= .int .i64 x4_1∧Aside0 (spec_ColNumber.l0 kq a0 x3_1 x4_1=some r)∧Aside0 (kq≤k)∧Aside0 (Below w.heap.size w w'))
 case atStart=>exact⟨(0),(0),(by first|rfl|(simp;done)|(simp [*];done)|(simp;unfold wrap64;omega)),(by first|rfl|(simp;done)|(simp [*];done)|(simp;unfold wrap64;omega)),H',⟨Nat.le_refl _⟩,⟨by repeat(first|(with_reducible first|exact HB.out|apply z2q|apply z3q|apply z4q)|exact HB.out)⟩⟩
 case round=>
  clear H'
  try clear c1
  obtain⟨x3_1,x4_1,rfl,rfl,HA,HK1,HB⟩:=hrel
  cases gk with
  |zero=>exact absurd HA.out (by simp [spec_ColNumber.l0])
  |succ k1=>
   have H:=HA.out
   clear HA
   simp only [spec_ColNumber.l0]at H
   have HC2:=Aside0.mk H
   clear H
   go_upto_region 3 with (fail)
   go_cut [12] (fun v12 wc=>∃ (kq:Nat) (x12_1:Bool),v12= .bool x12_1∧Aside0 (spec_ColNumber.j1 kq a0 x3_1 x4_1 x12_1=some r)∧Aside0 (kq≤k1)∧Aside0 (Below w.heap.size w wc))
   case first=>
    have H:=HC2.out
    clear HC2
    by_cases c3:x4_1<(a0.size:Int)
    ·rw [if_pos c3]at H
     have c3b0:decide (x4_1<(a0.size:Int))=true:=decide_eq_true c3
     clear c3
     (first|rw [c3b0]|(simp only [i64_w,i32_w];rw [c3b0])|skip)
     have H':=Aside0.mk H
     clear H
     go_wp2
     go_meet
     case rel=>exact⟨_,(decide (x4_1<4)),(by first|rfl|(simp;done)|(simp [*];done)|(simp;unfold wrap64;omega)),H',⟨by have:=HK1.out;first|omega|exact Nat.le_refl _⟩,⟨by repeat(first|(with_reducible first|exact HB.out|apply z2q|apply z3q|apply z4q)|exact HB.out)⟩⟩
    ·rw [if_neg c3]at H
     have c3b0:decide (x4_1<(a0.size:Int))=false:=decide_eq_false c3
     clear c3
     (first|rw [c3b0]|(simp only [i64_w,i32_w];rw [c3b0])|skip)
     have H':=Aside0.mk H
     clear H
     go_wp2
     go_meet
     case rel=>exact⟨_,(false),(by first|rfl|(simp;done)|(simp [*];done)|(simp;unfold wrap64;omega)),H',⟨by have:=HK1.out;first|omega|exact Nat.le_refl _⟩,⟨by repeat(first|(with_reducible first|exact HB.out|apply z2q|apply z3q|apply z4q)|exact HB.out)⟩⟩
   case rest=>
    clear HC2
    try clear c1
    try clear p2
    try clear c3
    try clear c3b0
    obtain⟨kq,x12_1,rfl,HA,HJ1,HB⟩:=hcut
    cases kq with
    |zero=>exact absurd HA.out (by simp [spec_ColNumber.j1])
    |succ kj1=>
     have H:=HA.out
     clear HA
     simp only [spec_ColNumber.j1]at H
     by_cases c4:x12_1=true
     ·subst c4
      have H1:(if 0≤x4_1 then(if x4_1<(a0.size:Int)then(if(bt a0 x4_1)<65 then(some 0)else(if(bt a0 x4_1) > 90 then(some 0)else(spec_ColNumber.l0 kj1 a0 (wrap64 ((wrap64 ((wrap64 (x3_1*26))+(((bt a0 x4_1)-65) % 256)))+1)) (wrap64 (x4_1+1)))))else(none))else(none))=some r:=by rw [if_pos rfl]at H;exact H
      clear H
      have H:=H1
      clear H1
      by_cases c5:0≤x4_1
      ·rw [if_pos c5]at H
       have c5b0:decide (0≤x4_1)=true:=decide_eq_true c5
       clear c5
       by_cases c6:x4_1<(a0.size:Int)
       ·rw [if_pos c6]at H
        have c6b0:decide (x4_1<(a0.size:Int))=true:=decide_eq_true c6
        clear c6
        by_cases c8:(bt a0 x4_1)<65
        ·rw [if_pos c8]at H
         have c8b0:decide ((bt a0 x4_1)<65)=true:=decide_eq_true c8
         clear c8
         obtain rfl:=Option.some.inj H
         have p7:0≤(x4_1:Int):=of_decide_eq_true (by first|(with_reducible assumption)|assumption)
         have q7:x4_1<(a0.size:Int):=of_decide_eq_true (by first|(with_reducible assumption)|assumption)
         have hx7:=bt_at a0 x4_1
         replace p7:=eq_true p7
         replace q7:=eq_true q7
         go_wp2
         go_ret
         exact⟨by first|rfl|(simp [errW_none,errW_some]<;>rfl)|(simp [*,errW_none,errW_some]<;>rfl),by repeat(first|(with_reducible first|exact HB.out|apply z2q|apply z3q|apply z4q)|exact HB.out)⟩
        ·rw [if_neg c8]at H
         have c8b0:decide ((bt a0 x4_1)<65)=false:=decide_eq_false c8
         clear c8
         by_cases c10:(bt a0 x4_1) > 90
         ·rw [if_pos c10]at H
          have c10b0:decide (90<(bt a0 x4_1))=true:=decide_eq_true c10
          clear c10
          obtain rfl:=Option.some.inj H
          have p7:0≤(x4_1:Int):=of_decide_eq_true (by first|(with_reducible assumption)|assumption)
          have q7:x4_1<(a0.size:Int):=of_decide_eq_true (by first|(with_reducible assumption)|assumption)
          have hx7:=bt_at a0 x4_1
          replace p7:=eq_true p7
          replace q7:=eq_true q7
          have p9:0≤(x4_1:Int):=of_decide_eq_true (by first|(with_reducible assumption)|assumption)
          have q9:x4_1<(a0.size:Int):=of_decide_eq_true (by first|(with_reducible assumption)|assumption)
          have hx9:=bt_at a0 x4_1
          replace p9:=eq_true p9
          replace q9:=eq_true q9
          go_wp2
          go_ret
          exact⟨by first|rfl|(simp [errW_none,errW_some]<;>rfl)|(simp [*,errW_none,errW_some]<;>rfl),by repeat(first|(with_reducible first|exact HB.out|apply z2q|apply z3q|apply z4q)|exact HB.out)⟩
         ·rw [if_neg c10]at H
          have c10b0:decide (90<(bt a0 x4_1))=false:=decide_eq_false c10
          clear c10
          have H':=Aside0.mk H
          clear H
          have p7:0≤(x4_1:Int):=of_decide_eq_true (by first|(with_reducible assumption)|assumption)
          have q7:x4_1<(a0.size:Int):=of_decide_eq_true (by first|(with_reducible assumption)|assumption)
          have hx7:=bt_at a0 x4_1
          replace p7:=eq_true p7
          replace q7:=eq_true q7
          have p9:0≤(x4_1:Int):=of_decide_eq_true (by first|(with_reducible assumption)|assumption)
          have q9:x4_1<(a0.size:Int):=of_decide_eq_true (by first|(with_reducible assumption)|assumption)
          have hx9:=bt_at a0 x4_1
          replace p9:=eq_true p9
          replace q9:=eq_true q9
          have p11:0≤(x4_1:Int):=of_decide_eq_true (by first|(with_reducible assumption)|assumption)
          have q11:x4_1<(a0.size:Int):=of_decide_eq_true (by first|(with_reducible assumption)|assumption)
          have hx11:=bt_at a0 x4_1
          replace p11:=eq_true p11
          replace q11:=eq_true q11
          go_wp2
          go_roundg kj1
          case measure=>have:=HK1.out;have:=HJ1.out;omega
          case rel=>exact⟨(wrap64 ((wrap64 ((wrap64 (x3_1*26))+(((bt a0 x4_1)-65) % 256)))+1)),(wrap64 (x4_1+1)),(by first|rfl|(simp;done)|(simp [*];done)|(simp;unfold wrap64;omega)),(by first|rfl|(simp;done)|(simp [*];done)|(simp;unfold wrap64;omega)),H',⟨by have:=HK1.out;have:=HJ1.out;omega⟩,⟨by repeat(first|(with_reducible first|exact HB.out|apply z2q|apply z3q|apply z4q)|exact HB.out)⟩⟩
       ·rw [if_neg c6]at H
        exact absurd H (by simp)
      ·rw [if_neg c5]at H
       exact absurd H (by simp)
     ·replace c4:=Bool.eq_false_iff.mpr c4
      subst c4
      have H1:((spec_ColName.f kj1 x3_1).bind fun t200=>(if t200.toList=a0.toList then(some x3_1)else(some 0)))=some r:=by rw [if_neg (show ¬ (false=true)by decide)]at H;exact H
      clear H
      have H:=H1
      clear H1
      replace H:=Option.bind_eq_some_iff.mp H
      obtain⟨t200,A120,H⟩:=H
      replace H:(if t200.toList=a0.toList then(some x3_1)else(some 0))=some r:=H
      have A12:=Aside0.mk A120
      clear A120
      by_cases c13:t200.toList=a0.toList
      ·rw [if_pos c13]at H
       have c13b0:(t200.toList==a0.toList)=true:=beq_iff_eq.mpr c13
       have c13b1:(t200.toList !=a0.toList)=false:=bne_eq_false_iff_eq.mpr c13
       clear c13
       obtain rfl:=Option.some.inj H
       go_wp2_with (first|((with_reducible refine z8q (f:=165) rfl ?_);refine z17q (some 35) rfl rfl Tryz.func165 (by kernel_rfl) rfl #[.int .i64 x3_1] rfl (by(try simp only [map_toArray,map_cons,map_nil]);first|done|rfl|(simp only [length_drop,length_take];rfl)) ?_;(with_reducible refine(spec_ColName.calls kj1 x3_1 t200 _ A12.out).mono ?_);rintro e w14 ⟨rfl,hb⟩;refine⟨_,rfl,?_⟩;have n0_:=Aside0.mk (z5q (ibh HB.out) hb);clear HB;have HB:=n0_;clear n0_;(try clear hb);(try clear hb2);(try clear hk);(try clear hi)))
       go_ret
       exact⟨by first|rfl|(simp [errW_none,errW_some]<;>rfl)|(simp [*,errW_none,errW_some]<;>rfl),by repeat(first|(with_reducible first|exact HB.out|apply z2q|apply z3q|apply z4q)|exact HB.out)⟩
      ·rw [if_neg c13]at H
       have c13b0:(t200.toList==a0.toList)=false:=beq_eq_false_iff_ne.mpr c13
       have c13b1:(t200.toList !=a0.toList)=true:=bne_iff_ne.mpr c13
       obtain rfl:=Option.some.inj H
       go_wp2_with (first|((with_reducible refine z8q (f:=165) rfl ?_);refine z17q (some 35) rfl rfl Tryz.func165 (by kernel_rfl) rfl #[.int .i64 x3_1] rfl (by(try simp only [map_toArray,map_cons,map_nil]);first|done|rfl|(simp only [length_drop,length_take];rfl)) ?_;(with_reducible refine(spec_ColName.calls kj1 x3_1 t200 _ A12.out).mono ?_);rintro e w15 ⟨rfl,hb⟩;refine⟨_,rfl,?_⟩;have n0_:=Aside0.mk (z5q (ibh HB.out) hb);clear HB;have HB:=n0_;clear n0_;(try clear hb);(try clear hb2);(try clear hk);(try clear hi)))
       go_ret
       exact⟨by first|rfl|(simp [errW_none,errW_some]<;>rfl)|(simp [*,errW_none,errW_some]<;>rfl),by repeat(first|(with_reducible first|exact HB.out|apply z2q|apply z3q|apply z4q)|exact HB.out)⟩




/-! ### spec_l1Num: function 118 -/

theorem nd_low:∀ (u:Nat),1≤u→10 ^ (Lib.nDigits u-1)≤u:=by
 intro u
 induction u using Nat.strongRecOn with
 |_ u ih=>
  intro h
  by_cases hs:u<10
  ·rw [Lib.nDigits_small hs];simpa using h
  ·rw [Lib.nDigits_big hs]
   have h1:=ih (u / 10) (by omega) (by omega)
   have h2:=Lib.nDigits_pos (u / 10)
   have h3:10 ^ (Lib.nDigits (u / 10)+1-1)=10 ^ (Lib.nDigits (u / 10)-1)*10:=by rw [←Nat.pow_succ];congr 1;omega
   rw [h3];omega

/-- A number's digit at a place, as the byte's number. -/
def digI (u t:Nat):Int:=((48+u / 10 ^ t % 10:Nat):Int)

/-- Its first m digits, the lowest first. -/
def digs (u m:Nat):List Value:=(List.range m).map fun t=> .int .u8 (digI u t)

theorem digs_succ (u m:Nat):digs u (m+1)=digs u m ++ [.int .u8 (digI u m)]:=by simp [digs,List.range_succ]

theorem digs_at (u m t:Nat) (h:t<m):(digs u m)[t]? =some (.int .u8 (digI u t)):=by simp [digs,h]

/-- A limb of nine digits. -/
def limb (u j:Nat):Nat:=u / 10 ^ (9*j) % 1000000000

theorem limb_digit (u j k:Nat) (hk:k<9):digI u (9*j+k)=48+(limb u j / 10 ^ k:Nat) % 10:=by
 unfold digI limb
 have hp:u / 10 ^ (9*j+k)=u / 10 ^ (9*j) / 10 ^ k:=by rw [Nat.pow_add,Nat.div_div_eq_div_mul]
 rw [hp]
 generalize u / 10 ^ (9*j)=x
 rcases (by omega:k=0∨k=1∨k=2∨k=3∨k=4∨k=5∨k=6∨k=7∨k=8)with rfl|rfl|rfl|rfl|rfl|rfl|rfl|rfl|rfl<;>simp<;>omega

theorem limb_le (u j k:Nat):limb u j / 10 ^ k≤999999999:=by
 have h1:limb u j / 10 ^ k≤limb u j:=Nat.div_le_self _ _
 have h2:limb u j<1000000000:=Nat.mod_lt _ (by decide)
 omega

def nl (u:Nat):Nat:=if u<1000000000 then 1 else 2

theorem nl_or (u:Nat):nl u=1∨nl u=2:=by unfold nl;split<;>simp

def limbC (u:Nat):Array Value:=if u<1000000000 then #[.int .u32 (u:Int)]else #[.int .u32 ((u:Int) % 1000000000),.int .u32 ((u:Int) / 1000000000)]

theorem limbC_at (u j:Nat) (hu:u<1000000000000000000) (hj:j<nl u):(limbC u)[j]? =some (.int .u32 (limb u j)):=by
 unfold limbC;unfold nl at hj
 split at hj
 ·rename_i h
  rw [if_pos h]
  obtain rfl:j=0:=by omega
  simp [limb];omega
 ·rename_i h
  rw [if_neg h]
  rcases (by omega:j=0∨j=1)with rfl|rfl
  ·simp [limb]
  ·simp [limb];omega

theorem nDigits_le (u:Nat) (hu:u<1000000000000000000):Lib.nDigits u≤9*nl u:=by
 rcases Nat.lt_or_ge (9*nl u) (Lib.nDigits u)with h|h
 ·exfalso
  have h1:10 ^ (Lib.nDigits u-1)≤u∨u=0:=by
   rcases Nat.lt_or_ge u (10 ^ (Lib.nDigits u-1))with h2|h2
   ·right
    exact Classical.byContradiction fun h3=>by
     have h4:=nd_low u (by omega)
     omega
   ·exact .inl h2
  rcases h1 with h1|h1
  ·have h2:10 ^ (9*nl u)≤10 ^ (Lib.nDigits u-1):=Nat.pow_le_pow_right (by decide) (by omega)
   unfold nl at h2
   split at h2<;>simp at h2<;>omega
  ·subst h1;rw [Lib.nDigits_small (by omega)]at h;have:=nl_or 0;omega
 ·exact h

theorem dig_top (u:Nat) (h:1≤u):digI u (Lib.nDigits u-1)≠48:=by
 have h1:=nd_low u h
 have h2:=Lib.lt_pow_nDigits u
 have h3:=Lib.nDigits_pos u
 unfold digI
 have h4:u / 10 ^ (Lib.nDigits u-1)<10:=by
  rw [Nat.div_lt_iff_lt_mul (Nat.pow_pos (by decide))]
  calc u<10 ^ Lib.nDigits u:=h2
   _=10*10 ^ (Lib.nDigits u-1):=by rw [←Nat.pow_succ'];congr 1;omega
 have h5:1≤u / 10 ^ (Lib.nDigits u-1):=(Nat.le_div_iff_mul_le (Nat.pow_pos (by decide))).2 (by omega)
 omega

theorem dig_over (u t:Nat) (h:Lib.nDigits u≤t):digI u t=48:=by
 unfold digI
 have h2:=Lib.lt_pow_nDigits u
 have h3:10 ^ Lib.nDigits u≤10 ^ t:=Nat.pow_le_pow_right (by decide) h
 rw [Nat.div_eq_of_lt (by omega)];rfl

/-- The bytes of a text, as they are laid: the first q digits from the top. -/
def outD (u N q:Nat):List Int:=(List.range q).map fun t=>digI u (N-1-t)

theorem outD_succ (u N q:Nat):outD u N (q+1)=outD u N q ++ [digI u (N-1-q)]:=by simp [outD,List.range_succ]

theorem outD_length (u N q:Nat):(outD u N q).length=q:=by simp [outD]

theorem outD_bytes (u:Nat):(outD u (Lib.nDigits u) (Lib.nDigits u)).map (fun n=>UInt8.ofNat n.toNat)=Lib.decDigits u:=by
 rw [Lib.decDigits_eq]
 unfold outD
 rw [List.map_map]
 refine List.map_congr_left fun t _=> ?_
 show UInt8.ofNat (digI u (Lib.nDigits u-1-t)).toNat=_
 unfold digI;rw [Int.toNat_natCast];rfl

theorem out_pos (u:Nat):strOfNums (outD u (Lib.nDigits u) (Lib.nDigits u))=⟨(Lib.itoa (u:Int)).toArray⟩:=by
 have e:Lib.itoa (u:Int)=Lib.decDigits u:=by unfold Lib.itoa;rw [if_neg (by omega)];simp
 unfold strOfNums;rw [outD_bytes,e]

theorem out_neg (u:Nat) (h:1≤u):strOfNums (45:: outD u (Lib.nDigits u) (Lib.nDigits u))=⟨(Lib.itoa (-(u:Int))).toArray⟩:=by
 have e:Lib.itoa (-(u:Int))=45:: Lib.decDigits u:=by unfold Lib.itoa;rw [if_pos (by omega)];simp
 unfold strOfNums;rw [map_cons,outD_bytes,e];rfl


set_option maxHeartbeats 2000000 in
theorem l1Small_calls (v:Int) (h1: -1000000000000000000<v) (h2:v<1000000000000000000) (w:World):
  Calls Tryz.prog 138 #[.int .i64 v] w fun e w'=>e= .returned (.agg #[.int .i64 v,.bool false,.slice none 0 0])∧Below w.heap.size w w':=by
 have c1:decide (v<1000000000000000000)=true:=decide_eq_true h2
 have c2:decide (v > -1000000000000000000)=true:=decide_eq_true h1
 go_enter Tryz.func138,Tryz.ntmps138
 go_wp2
 refine bodyPost_ret (v:= .agg #[.int .i64 v,.bool false,.slice none 0 0]) (by simp [results,Tryz.results138,go_sem]) rfl ⟨rfl,z2q (Below.refl _ _) _⟩

set_option maxHeartbeats 2000000 in
theorem l1Add_calls (x y:Int) (h1: -1000000000000000000<x+y) (h2:x+y<1000000000000000000) (w:World):
  Calls Tryz.prog 136 #[.agg #[.int .i64 x,.bool false,.slice none 0 0],.agg #[.int .i64 y,.bool false,.slice none 0 0]] w fun e w'=>e= .returned (.agg #[.int .i64 (x+y),.bool false,.slice none 0 0])∧Below w.heap.size w w':=by
 have e1:IntKind.i64.wrap (x+y)=x+y:=IntWalk.i64_in _ (by omega)
 have hs:=fun w=>l1Small_calls (x+y) h1 h2 w
 have hb0:=fun a b c d e=>z2q (z2q (z2q (z2q (z2q (Below.refl w.heap.size w) a) b) c) d) e
 have HB0:=Lib.hid hb0;clear hb0
 have hk0:=fun a b c d e=>z10q (z10q (blk_new ((w.alloc a).alloc b) c) d) e
 have HK0:=Lib.hid hk0;clear hk0
 go_enter Tryz.func136,Tryz.ntmps136
 go_wp2_with (go_at_call 152;go_in)
 refine(hs _).mono ?_;rintro e w1 ⟨rfl,hb⟩
 have hk:=z12q (HK0.out _ _ _ _ _) hb
 simp only [World.size_alloc]at hk
 have HK:=Lib.hid hk
 have k0:=z1q hk 0;have k1:=z1q hk 1;have k2:=z1q hk 2;have f0:=z0q hk 0;have f1:=z0q hk 1;have f2:=z0q hk 2
 simp at k0 k1 k2
 have HBB:=Lib.hid (z5q (HB0.out _ _ _ _ _) hb)
 clear hk hb
 go_wp2
 (try simp only [Exit.inBlock,Exit.then]);refine bodyPost_ret (results_cell_row rfl _ _ (w.heap.size+1+1) 163 _ (0,0) _ rfl (z11q (z11q (z11q HK.out 0 _ rfl) 1 _ rfl) 2 _ rfl) Tryz.underlying163 rfl (by kernel_rfl)) rfl ?_
 exact⟨rfl,Below.setCell (Below.setCell (Below.setCell HBB.out (Nat.le_add_right _ 2) _) (Nat.le_add_right _ 2) _) (Nat.le_add_right _ 2) _⟩

set_option maxHeartbeats 2000000 in
set_option maxRecDepth 100000 in
theorem l1Mul10_calls (x:Int) (h1: -99999999999999999≤x) (h2:x≤99999999999999999) (w:World):
  Calls Tryz.prog 137 #[.agg #[.int .i64 x,.bool false,.slice none 0 0],.agg #[.int .i64 10,.bool false,.slice none 0 0]] w fun e w'=>e= .returned (.agg #[.int .i64 (x*10),.bool false,.slice none 0 0])∧Below w.heap.size w w':=by
 have e1:IntKind.i64.wrap (x*10)=x*10:=IntWalk.i64_in _ (by omega)
 have hb0:=fun a b c d e f g=>z2q (z2q (z2q (z2q (z2q (z2q (z2q (Below.refl w.heap.size w) a) b) c) d) e) f) g
 have HB0:=Lib.hid hb0;clear hb0
 have hk0:=fun a b c d e=>z10q (z10q (blk_new ((w.alloc a).alloc b) c) d) e
 simp only [World.size_alloc]at hk0
 have HK0:=Lib.hid hk0;clear hk0
 have b0:decide ((10:Int)<0)=false:=rfl
 by_cases hz:x=0
 ·subst hz
  go_enter Tryz.func137,Tryz.ntmps137
  go_wp2
  (try simp only [Exit.inBlock,Exit.then]);refine bodyPost_ret (results_cell_row rfl _ _ (w.heap.size+1+1) 163 _ (0,0) _ rfl (HK0.out _ _ _ _ _) Tryz.underlying163 rfl (by kernel_rfl)) rfl ?_
  exact⟨rfl,z2q (z2q (z2q (z2q (z2q (Below.refl _ _) _) _) _) _) _⟩
 ·have d0:(x==0)=false:=beq_eq_false_iff_ne.mpr hz
  by_cases hn:x<0
  ·have d1:decide (x<0)=true:=decide_eq_true hn
   have e2:IntKind.i64.wrap (-x)= -x:=IntWalk.i64_in _ (by omega)
   have d2:((-x)==0)=false:=beq_eq_false_iff_ne.mpr (by omega)
   obtain⟨q,hq⟩:∃ q,q=999999999999999999 / (-x):=⟨_,rfl⟩
   have q1:(999999999999999999:Int).tdiv (-x)=q:=by rw [hq];exact Int.tdiv_eq_ediv_of_nonneg (by omega)
   have q2:10≤q:=by rw [hq];exact(Int.le_ediv_iff_mul_le (by omega)).2 (by omega)
   have q4:q≤999999999999999999:=by rw [hq];exact Int.ediv_le_self _ (by omega)
   have q3:decide (10≤q)=true:=decide_eq_true q2
   have q5:IntKind.i64.wrap q=q:=IntWalk.i64_in _ (by omega)
   have HH:=Lib.hid (And.intro h1 (And.intro h2 (And.intro hq (And.intro q2 q4))));clear h1 h2 hq q2 q4 hz
   go_enter Tryz.func137,Tryz.ntmps137
   go_wp2
   (try simp only [Exit.inBlock,Exit.then]);refine bodyPost_ret (results_cell_row rfl _ _ (w.heap.size+1+1) 163 _ (0,0) _ rfl (HK0.out _ _ _ _ _) Tryz.underlying163 rfl (by kernel_rfl)) rfl ?_
   exact⟨rfl,z2q (z2q (z2q (z2q (z2q (Below.refl _ _) _) _) _) _) _⟩
  ·have d1:decide (x<0)=false:=decide_eq_false hn
   obtain⟨q,hq⟩:∃ q,q=999999999999999999 / x:=⟨_,rfl⟩
   have q1:(999999999999999999:Int).tdiv x=q:=by rw [hq];exact Int.tdiv_eq_ediv_of_nonneg (by omega)
   have q2:10≤q:=by rw [hq];exact(Int.le_ediv_iff_mul_le (by omega)).2 (by omega)
   have q4:q≤999999999999999999:=by rw [hq];exact Int.ediv_le_self _ (by omega)
   have q3:decide (10≤q)=true:=decide_eq_true q2
   have q5:IntKind.i64.wrap q=q:=IntWalk.i64_in _ (by omega)
   have HH:=Lib.hid (And.intro h1 (And.intro h2 (And.intro hq (And.intro q2 q4))));clear h1 h2 hq q2 q4 hn
   go_enter Tryz.func137,Tryz.ntmps137
   go_wp2
   (try simp only [Exit.inBlock,Exit.then]);refine bodyPost_ret (results_cell_row rfl _ _ (w.heap.size+1+1) 163 _ (0,0) _ rfl (HK0.out _ _ _ _ _) Tryz.underlying163 rfl (by kernel_rfl)) rfl ?_
   exact⟨rfl,z2q (z2q (z2q (z2q (z2q (Below.refl _ _) _) _) _) _) _⟩

set_option maxHeartbeats 2000000 in
set_option maxRecDepth 100000 in
theorem l1Limbs_one (v U:Int) (hv:(U=v∧decide (v<0)=false)∨(v= -U∧decide (v<0)=true∧decide (0<U)=true)) (h1:1≤U) (h2:U<1000000000) (w:World):
  Calls Tryz.prog 150 #[.agg #[.int .i64 v,.bool false,.slice none 0 0]] w fun e w'=>e= .returned (.slice (some ⟨w.heap.size+1,0,none⟩) 1 1)∧w'.heap[w.heap.size+1]? =some (.cells #[.int .u32 U] 179 (0,0))∧Below w.heap.size w w':=by
 have e0:IntKind.i64.wrap U=U:=IntWalk.i64_in _ (by omega)
 have e1:IntKind.u64.wrap U=U:=by simp [IntKind.wrap,IntKind.bits,IntKind.signed];omega
 have e2:U % 4294967296=U:=by omega
 have d2:(U==0)=false:=beq_eq_false_iff_ne.mpr (by omega)
 have d3:decide (U<1000000000)=true:=decide_eq_true h2
 have HH:=Lib.hid (And.intro h1 h2);clear h1 h2
 rcases hv with ⟨rfl,d1⟩|⟨rfl,d1,d4⟩
 all_goals
  have hc:=fun a=>blk_new (w.alloc a) (.cells #[.int .u32 U] 179)
  simp only [World.size_alloc]at hc
  have HC:=Lib.hid hc;clear hc
  go_enter Tryz.func150,Tryz.ntmps150
  go_wp2
  go_ret
  exact⟨rfl,HC.out _,z2q (z2q (Below.refl _ _) _) _⟩

set_option maxHeartbeats 2000000 in
set_option maxRecDepth 100000 in
theorem l1Limbs_two (v U L0 L1:Int) (hv:(U=v∧decide (v<0)=false)∨(v= -U∧decide (v<0)=true∧decide (0<U)=true)) (h1:1000000000≤U) (h2:U<1000000000000000000) (hL0:L0=U % 1000000000) (hL1:L1=U / 1000000000) (w:World):
  Calls Tryz.prog 150 #[.agg #[.int .i64 v,.bool false,.slice none 0 0]] w fun e w'=>e= .returned (.slice (some ⟨w.heap.size+1,0,none⟩) 2 2)∧w'.heap[w.heap.size+1]? =some (.cells #[.int .u32 L0,.int .u32 L1] 179 (0,0))∧Below w.heap.size w w':=by
 have e0:IntKind.i64.wrap U=U:=IntWalk.i64_in _ (by omega)
 have e1:IntKind.u64.wrap U=U:=by simp [IntKind.wrap,IntKind.bits,IntKind.signed];omega
 have d2:(U==0)=false:=beq_eq_false_iff_ne.mpr (by omega)
 have d3:decide (U<1000000000)=false:=decide_eq_false (by omega)
 have m0:U.tmod 1000000000=L0:=by rw [hL0];exact Int.tmod_eq_emod_of_nonneg (by omega)
 have m1:U.tdiv 1000000000=L1:=by rw [hL1];exact Int.tdiv_eq_ediv_of_nonneg (by omega)
 have e3:IntKind.u64.wrap L1=L1:=by simp [IntKind.wrap,IntKind.bits,IntKind.signed];omega
 have e4:L0 % 4294967296=L0:=by omega
 have e5:L1 % 4294967296=L1:=by omega
 have HH:=Lib.hid (And.intro h1 (And.intro h2 (And.intro hL0 hL1)));clear h1 h2 hL0 hL1
 rcases hv with ⟨rfl,d1⟩|⟨rfl,d1,d4⟩
 all_goals
  have hc:=fun a=>blk_new (w.alloc a) (.cells #[.int .u32 L0,.int .u32 L1] 179)
  simp only [World.size_alloc]at hc
  have HC:=Lib.hid hc;clear hc
  go_enter Tryz.func150,Tryz.ntmps150
  go_wp2
  go_ret
  exact⟨rfl,HC.out _,z2q (z2q (Below.refl _ _) _) _⟩

set_option maxHeartbeats 2000000 in
theorem l1Limbs_zero (w:World):
  Calls Tryz.prog 150 #[.agg #[.int .i64 0,.bool false,.slice none 0 0]] w fun e w'=>e= .returned (.slice none 0 0)∧Below w.heap.size w w':=by
 go_enter Tryz.func150,Tryz.ntmps150
 go_wp2
 go_ret
 exact⟨rfl,z2q (Below.refl _ _) _⟩


theorem tmod10 (n:Int): -9≤n.tmod 10∧n.tmod 10≤9∧(n<0→n.tmod 10≤0)∧(0≤n→0≤n.tmod 10):=by
 rcases Int.lt_or_le n 0 with h|h
 ·have e:n.tmod 10= -((-n) % 10):=by rw [←Int.tmod_eq_emod_of_nonneg (by omega),Int.neg_tmod];omega
  omega
 ·rw [Int.tmod_eq_emod_of_nonneg h];omega

set_option maxRecDepth 100000 in
theorem l1Limbs_calls (v:Int) (u:Nat) (hv:((u:Int)=v∧decide (v<0)=false)∨(v= -(u:Int)∧decide (v<0)=true∧decide (0<(u:Int))=true)) (h1:1≤u) (h2:u<1000000000000000000) (w:World):
  Calls Tryz.prog 150 #[.agg #[.int .i64 v,.bool false,.slice none 0 0]] w fun e w'=>e= .returned (.slice (some ⟨w.heap.size+1,0,none⟩) (nl u) (nl u))∧w'.heap[w.heap.size+1]? =some (.cells (limbC u) 179 (0,0))∧Below w.heap.size w w':=by
 by_cases hs:u<1000000000
 ·have e:nl u=1:=if_pos hs
  have e':limbC u=#[.int .u32 (u:Int)]:=if_pos hs
  rw [e,e']
  exact(l1Limbs_one v u hv (by omega) (by omega) w).mono fun _ _ h=>h
 ·have e:nl u=2:=if_neg hs
  have e':limbC u=#[.int .u32 ((u:Int) % 1000000000),.int .u32 ((u:Int) / 1000000000)]:=if_neg hs
  rw [e,e']
  exact(l1Limbs_two v u _ _ hv (by omega) (by omega) rfl rfl w).mono fun _ _ h=>h

theorem l1Neg_calls (v:Int) (b:Bool) (hb:decide (v<0)=b) (w:World):
  Calls Tryz.prog 151 #[.agg #[.int .i64 v,.bool false,.slice none 0 0]] w fun e w'=>e= .returned (.bool b)∧w'=w.alloc (.cells #[.int .i64 v,.bool false,.slice none 0 0] 163):=by
 go_enter Tryz.func151,Tryz.ntmps151
 go_wp2
 go_ret
 first|exact⟨rfl,rfl⟩|exact⟨by rw [←hb],rfl⟩|(rw [hb];exact⟨rfl,rfl⟩)

theorem u8info:(Tryz.prog.info? 5).map (fun i=>(i.zero,i.size,i.bytes))=some (some (.int .u8 0),1,1):=by kernel_rfl


set_option maxHeartbeats 4000000 in
set_option maxRecDepth 100000 in
theorem l1Text_pos (u:Nat) (h1:1≤u) (h2:u<1000000000000000000) (w:World):
  Calls Tryz.prog 135 #[.agg #[.int .i64 (u:Int),.bool false,.slice none 0 0]] w fun e w'=>e= .returned (.string ⟨(Lib.itoa (u:Int)).toArray⟩)∧Below w.heap.size w w':=by
 obtain⟨v,hv⟩:∃ v:Int,v=(u:Int):=⟨_,rfl⟩
 rw [←hv]
 obtain⟨i0,hi,hz0,hz1,hz2⟩:=info_parts u8info
 have hu:=fun w=>l1Limbs_calls v u (.inl ⟨hv.symm,decide_eq_false (by omega)⟩) h1 h2 w
 obtain⟨n,hn⟩:∃ n,n=nl u:=⟨_,rfl⟩
 rw [←hn]at hu
 have hn1:1≤n:=by have:=nl_or u;omega
 have hn2:n≤2:=by have:=nl_or u;omega
 have hND:Lib.nDigits u≤9*n:=by rw [hn];exact nDigits_le u h2
 obtain⟨N,hN⟩:∃ N,N=Lib.nDigits u:=⟨_,rfl⟩
 rw [←hN]at hND
 have hN1:1≤N:=by rw [hN];exact Lib.nDigits_pos u
 have dlt:decide (v<0)=false:=decide_eq_false (by omega)
 have d1:((n:Int)==0)=false:=beq_eq_false_iff_ne.mpr (by omega)
 have w1_:IntKind.i64.wrap (9*(n:Int))=9*(n:Int):=IntWalk.i64_in _ (by omega)
 have w2_:IntKind.i64.wrap (9*(n:Int)+1)=9*(n:Int)+1:=IntWalk.i64_in _ (by omega)
 have hk0:=blk_new w (.cells #[.int .i64 v,.bool false,.slice none 0 0] 163)
 have hb0:=z2q (Below.refl w.heap.size w) (.cells #[.int .i64 v,.bool false,.slice none 0 0] 163)
 have HU:=Lib.hid hu;have HN:=Lib.hid hn;have HNN:=Lib.hid hN;have HND:=Lib.hid hND;have HV:=Lib.hid hv;have HK0:=Lib.hid hk0;have HB0:=Lib.hid hb0;have H1:=Lib.hid h1;have H2:=Lib.hid h2;have HZ2:=Lib.hid hz2
 clear hu hn hN hv hk0 hb0 h1 h2 hz2 hND
 go_enter Tryz.func135,Tryz.ntmps135
 go_wp2_with fail
 refine(HU.out _).mono ?_;rintro e w1 ⟨rfl,hl,hb⟩
 simp only [World.size_alloc]at hl hb
 have HK1:=Lib.hid (z12q HK0.out (by simpa only [World.size_alloc]using hb))
 have HL1:=Lib.hid hl
 have HB1:=Lib.hid (z5q HB0.out (by simpa only [World.size_alloc]using hb))
 clear hl hb HK0 HB0
 go_wp2_with (at_make;refine wpList_make_own _ rfl _ _ 116 rfl w.heap.size 5 i0 (.int .u8 0) 1 Tryz.underlying116 hi hz0 hz1 _ _ _ (9*n+1) rfl rfl (by push_cast;rfl) (by rw [HZ2.out];omega) (by unfold maxLen;omega) HB1.out.size ?_)
 intro w2 hown hgrow
 have HK2:=Lib.hid (blk_grown HK1.out hgrow (by simp));have HL2:=Lib.hid (blk_grown HL1.out hgrow (by simp))
 have HB2:=Lib.hid (HB1.out.grown hgrow HB1.out.size (fun k h=>by cases h))
 have HO:=Lib.hid hown
 have hlt1:Hid (w.heap.size<w1.heap.size∧w.heap.size+1+1<w1.heap.size):=Lib.hid ⟨z20q HK1.out,z20q HL1.out⟩
 clear hown hgrow HK1 HL1
 have HO0:Hid (World.ownsRow w2 w.heap.size 5 1 (.slice (some ⟨w1.heap.size,0,none⟩) (9*0) (9*n+1)) (9*0) (digs u (9*0))):=Lib.hid (by simpa [digs]using HO.out)
 clear HO
 go_wp2_with fail
 go_loopw [23,4] (fun i s w'=>∃ j:Nat,j≤n∧i= .int .i64 j∧s=(.slice (some ⟨w1.heap.size,0,none⟩) (9*j) (9*n+1))∧Hid (World.ownsRow w' w.heap.size 5 1 (.slice (some ⟨w1.heap.size,0,none⟩) (9*j) (9*n+1)) (9*j) (digs u (9*j)))∧Hid (w'.heap[w.heap.size]? =some (.cells #[.int .i64 v,.bool false,.slice none 0 0] 163 (0,0)))∧Hid (w'.heap[w.heap.size+1+1]? =some (.cells (limbC u) 179 (0,0)))∧Hid (Below w.heap.size w w')) (fun i _ _=>n-(intOf i).toNat)
 case atStart=>exact⟨0,Nat.zero_le _,rfl,rfl,HO0,HK2,HL2,HB2⟩
 case round=>
  clear HO0 HK2 HL2 HB2
  obtain⟨j,hj,rfl,rfl,HO,HK,HL,HB⟩:=hrel
  by_cases hlt:j<n
  ·have hc:=(z1q HL.out j).trans (limbC_at u j H2.out (by have:=HN.out;omega))
   have hj2:j<2:=by omega
   rw [show 9*j=9*j+0 from rfl]at HO
   have hx0:limb u j / 10 ^ 0=limb u j:=by simp
   have HX0:=Lib.hid hx0;clear hx0
   go_wp2_with fail
   go_loopw [7,6,4] (fun k x s w'=>∃ q:Nat,q≤9∧k= .int .i64 q∧x= .int .u32 ((limb u j / 10 ^ q:Nat):Int)∧s=(.slice (some ⟨w1.heap.size,0,none⟩) (9*j+q) (9*n+1))∧Hid (World.ownsRow w' w.heap.size 5 1 (.slice (some ⟨w1.heap.size,0,none⟩) (9*j+q) (9*n+1)) (9*j+q) (digs u (9*j+q)))∧Hid (w'.heap[w.heap.size]? =some (.cells #[.int .i64 v,.bool false,.slice none 0 0] 163 (0,0)))∧Hid (w'.heap[w.heap.size+1+1]? =some (.cells (limbC u) 179 (0,0)))∧Hid (Below w.heap.size w w')) (fun k _ _ _=>9-(intOf k).toNat)
   case atStart=>exact⟨0,by omega,rfl,by rw [HX0.out],rfl,HO,HK,HL,HB⟩
   case round=>
    clear HO HK HL HB hc HX0
    obtain⟨q,hq,rfl,rfl,rfl,HO,HK,HL,HB⟩:=hrel
    by_cases hq9:q<9
    ·obtain⟨X,hX⟩:∃ X,X=limb u j / 10 ^ q:=⟨_,rfl⟩
     have hX9:X≤999999999:=by rw [hX];exact limb_le u j q
     have hdg:=limb_digit u j q hq9
     have hnx:limb u j / 10 ^ (q+1)=X / 10:=by rw [hX,Nat.div_div_eq_div_mul,Nat.pow_succ]
     rw [←hX]at hdg ⊢
     have g1:decide ((q:Int)<9)=true:=decide_eq_true (by omega)
     have HDG:=Lib.hid hdg;have HNX:=Lib.hid hnx;clear hdg hnx hX
     go_wp2_with (at_builtin;refine wpList_append_fits _ rfl (.tmp 34) (.tmp 39) 116 rfl w.heap.size 5 i0 1 Tryz.underlying116 hi hz1 w1.heap.size (9*j+q) (9*n+1) _ rfl (HO.out.alloc _) ⟨wr.heap.size,0,none⟩ 1 1 [.int .u8 (48+(X:Int) % 10)] rfl rfl (by intro t z ht;match t,ht with|0,ht=>simp at ht;subst ht;simp [Addr.add]) (by intro z hz;simp at hz;subst hz;rfl) (by omega) ?_;intro w3 hown hgrow)
     have HKn:=Lib.hid (blk_grown (z10q HK.out _) hgrow (by have:=hlt1.out;intro h;injection h with h;omega));clear HK;have HK:=HKn;clear HKn
     have HLn:=Lib.hid (blk_grown (z10q HL.out _) hgrow (by have:=hlt1.out;intro h;injection h with h;omega));clear HL;have HL:=HLn;clear HLn
     have HBn:=Lib.hid ((z2q HB.out _).grown hgrow (z2q HB.out _).size (fun k h=>by have:=hlt1.out;injection h with h;omega));clear HB;have HB:=HBn;clear HBn
     have HOn:=Lib.hid hown;clear hown hgrow HO
     go_wp2_with fail
     go_roundw
     case rel=>exact⟨q+1,by omega,by go_num,by rw [HNX.out];first|rfl|(congr 1;omega),rfl,Lib.hid (by have:=HOn.out;rw [show 9*j+(q+1)=9*j+q+1 from rfl,digs_succ,HDG.out];first|exact this|simpa using this),HK,HL,HB⟩
     case measure=>simp [intOf];omega
    ·obtain rfl:q=9:=by omega
     have g1:decide (((9:Nat):Int)<9)=false:=rfl
     go_wp2_with fail
     go_roundw
     case rel=>exact⟨j+1,by omega,by go_num,by rw [show 9*(j+1)=9*j+9 from rfl],by rw [show 9*(j+1)=9*j+9 from rfl];exact HO,HK,HL,HB⟩
     case measure=>simp [intOf];omega
  ·obtain rfl:j=n:=by omega
   clear hlt hj HL
   have w3_:IntKind.i64.wrap (((9*j:Nat):Int))=((9*j:Nat):Int):=IntWalk.i64_in _ (by omega)
   go_wp2_with fail
   go_loopw [8] (fun m w'=>∃ q:Nat,N≤q∧q≤9*j∧m= .int .i64 q∧w'=wr) (fun m _=>(intOf m).toNat)
   case atStart=>exact⟨9*j,HND.out,Nat.le_refl _,by go_num,rfl⟩
   case round=>
    obtain⟨q,hq1,hq2,rfl,rfl⟩:=hrel
    have hc:=(HO.out.cellAt (q-1) (by omega)).trans (digs_at u (9*j) (q-1) (by omega))
    have e1:IntKind.i64.wrap ((q:Int)-1)=((q-1:Nat):Int):=by rw [IntWalk.i64_in _ (by omega)];omega
    have g1:decide ((q:Int) > 0)=true:=decide_eq_true (by omega)
    by_cases hqn:N<q
    ·have hz:(digI u (q-1)==48)=true:=beq_iff_eq.mpr (dig_over u (q-1) (by have:=HNN.out;omega))
     go_wp2_with fail
     go_roundw
     case rel=>exact⟨q-1,by omega,by omega,by first|rfl|go_num,by first|rfl|trivial⟩
     case measure=>simp [intOf];omega
    ·obtain rfl:q=N:=by omega
     have hz:(digI u (q-1)==48)=false:=beq_eq_false_iff_ne.mpr (by have:=dig_top u H1.out;rw [HNN.out];exact this)
     have w4_:IntKind.i64.wrap ((q:Int)+1)=(q:Int)+1:=IntWalk.i64_in _ (by omega)
     obtain⟨tb,htb⟩:∃ tb,wr.heap.size=tb:=⟨_,rfl⟩
     have hlt2:Hid (w.heap.size<tb∧w1.heap.size<tb):=Lib.hid ⟨by rw [←htb];exact z20q HK.out,by rw [←htb];exact(HO.out.lt _ rfl).2⟩
     have HTB:=Lib.hid htb;clear htb
     go_wp2_with (at_make;refine wpList_make_own _ rfl _ _ 116 rfl w.heap.size 5 i0 (.int .u8 0) 1 Tryz.underlying116 hi hz0 hz1 _ _ _ (q+1) rfl rfl (by push_cast;rfl) (by rw [HZ2.out];omega) (by unfold maxLen;omega) HB.out.size ?_)
     intro w4 hown hgrow
     rw [HTB.out]at hown ⊢
     have HKn:=Lib.hid (blk_grown HK.out hgrow (by simp));clear HK;have HK:=HKn;clear HKn
     have HOn:=Lib.hid (HO.out.kept hgrow (.inr (by simp [Value.ownBlock])));clear HO;have HO:=HOn;clear HOn
     have HBn:=Lib.hid (HB.out.grown hgrow HB.out.size (fun k h=>by cases h));clear HB;have HB:=HBn;clear HBn
     have HT:=Lib.hid hown;clear hown hgrow hc
     have k0:=z1q HK.out 0;have k1:=z1q HK.out 1;have k2:=z1q HK.out 2;simp at k0 k1 k2
     go_wp2_with (go_at_call 151;(with_reducible refine(l1Neg_calls v _ dlt _).mono ?_);rintro e w' ⟨rfl,rfl⟩)
     have HTn:=Lib.hid (HT.out.alloc (.cells #[.int .i64 v,.bool false,.slice none 0 0] 163));clear HT;have HT:=HTn;clear HTn
     have HOn:=Lib.hid (HO.out.alloc (.cells #[.int .i64 v,.bool false,.slice none 0 0] 163));clear HO;have HO:=HOn;clear HOn
     have HBn:=Lib.hid (z2q HB.out (.cells #[.int .i64 v,.bool false,.slice none 0 0] 163));clear HB;have HB:=HBn;clear HBn
     clear k0 k1 k2 HK
     go_loopw [10,9] (fun i s w'=>∃ p:Nat,p≤q∧i= .int .i64 ((q:Int)-1-p)∧s=(.slice (some ⟨tb,0,none⟩) (p) (q+1))∧Hid (World.ownsRow w' w.heap.size 5 1 (.slice (some ⟨tb,0,none⟩) (p) (q+1)) (p) ((([]:List Int) ++ outD u q p).map (Value.int .u8)))∧Hid (World.ownsRow w' w.heap.size 5 1 (.slice (some ⟨w1.heap.size,0,none⟩) (9*j) (9*j+1)) (9*j) (digs u (9*j)))∧Hid (Below w.heap.size w w')) (fun i _ _=>(intOf i+1).toNat)
     case atStart=>
      exact⟨0,Nat.zero_le _,by go_num,rfl,Lib.hid (by first|exact HT.out|simpa [outD]using HT.out),HO,HB⟩
     case round=>
      clear HO HB HT
      obtain⟨p,hp,rfl,rfl,HT,HO,HB⟩:=hrel
      by_cases hpq:p<q
      ·obtain⟨z,hz_⟩:∃ z:Nat,(q:Int)-1-p=(z:Int):=⟨q-1-p,by omega⟩
       rw [hz_]
       have hzn:z=q-1-p:=by omega
       have hz9:z<9*j:=by omega
       have hc:=(HO.out.cellAt z (by omega)).trans (digs_at u (9*j) z (by omega))
       have g2:decide ((z:Int)≥0)=true:=decide_eq_true (by omega)
       have g3:IntKind.i64.wrap ((z:Int)-1)=(z:Int)-1:=IntWalk.i64_in _ (by omega)
       have HZ:=Lib.hid hz_;have HZN:=Lib.hid hzn;clear hz_ hzn
       go_wp2_with (at_builtin;refine wpList_append_fits _ rfl (.tmp 72) (.tmp 77) 116 rfl w.heap.size 5 i0 1 Tryz.underlying116 hi hz1 tb (p) (q+1) _ rfl (HT.out.alloc _) ⟨wr.heap.size,0,none⟩ 1 1 [.int .u8 (digI u z)] rfl rfl (by intro t z ht;match t,ht with|0,ht=>simp at ht;subst ht;simp [Addr.add]) (by intro z hz;simp at hz;subst hz;rfl) (by omega) ?_;intro w6 hown hgrow)
       have HT6:=Lib.hid hown
       have HOn:=Lib.hid (World.ownsRow.kept (HO.out.alloc _) hgrow (.inr (by have:=hlt2.out;simp [Value.ownBlock];omega)));clear HO;have HO:=HOn;clear HOn
       have HBn:=Lib.hid ((z2q HB.out _).grown hgrow (z2q HB.out _).size (fun k h=>by have:=hlt2.out;injection h with h;omega));clear HB;have HB:=HBn;clear HBn
       clear hown hgrow HT hc;have HT:=HT6;clear HT6
       go_wp2_with fail
       go_roundw
       case rel=>exact⟨p+1,by omega,by have:=HZ.out;go_num,rfl,Lib.hid (by have:=HT.out;rw [outD_succ,←HZN.out];rw [←List.append_assoc,List.map_append];exact this),HO,HB⟩
       case measure=>have:=HZ.out;(simp [intOf]<;>omega)
      ·obtain rfl:p=q:=by omega
       have e5:(p:Int)-1-p= -1:=by omega
       rw [e5]
       have hcv:(convert 116 9 (.slice (some ⟨tb,0,none⟩) (p) (p+1))).run Tryz.prog wr= .ok (.string (strOfNums (([]:List Int) ++ outD u p p))) wr:=by
        refine string_of_reads Tryz.underlying116 Tryz.underlying5 Tryz.underlying9 ⟨by(try simp [outD_length])<;>omega,by(try simp [outD_length])<;>omega,fun _=>⟨_,rfl,fun i hi_=> ?_⟩⟩
        have e6:(Addr.add ⟨tb,0,none⟩ i)=⟨tb,i,none⟩:=by simp [Addr.add];intro h;exact h.symm
        rw [e6,HT.out.cellAt i (by omega)]
        have hl_:i<(([]:List Int) ++ outD u p p).length:=by simp [outD_length]<;>omega
        rw [List.getElem?_map,List.getElem?_eq_getElem hl_,List.getD_eq_getElem?_getD,List.getElem?_eq_getElem hl_];rfl
       clear e5
       go_wp2_with fail
       go_ret
       refine⟨?_,HB.out⟩
       rw [HV.out,←out_pos u,←HNN.out];rfl

set_option maxHeartbeats 4000000 in
set_option maxRecDepth 100000 in
theorem l1Text_neg (u:Nat) (h1:1≤u) (h2:u<1000000000000000000) (w:World):
  Calls Tryz.prog 135 #[.agg #[.int .i64 (-(u:Int)),.bool false,.slice none 0 0]] w fun e w'=>e= .returned (.string ⟨(Lib.itoa (-(u:Int))).toArray⟩)∧Below w.heap.size w w':=by
 obtain⟨v,hv⟩:∃ v:Int,v=(-(u:Int)):=⟨_,rfl⟩
 rw [←hv]
 obtain⟨i0,hi,hz0,hz1,hz2⟩:=info_parts u8info
 have hu:=fun w=>l1Limbs_calls v u (.inr ⟨hv,decide_eq_true (by omega),decide_eq_true (by omega)⟩) h1 h2 w
 obtain⟨n,hn⟩:∃ n,n=nl u:=⟨_,rfl⟩
 rw [←hn]at hu
 have hn1:1≤n:=by have:=nl_or u;omega
 have hn2:n≤2:=by have:=nl_or u;omega
 have hND:Lib.nDigits u≤9*n:=by rw [hn];exact nDigits_le u h2
 obtain⟨N,hN⟩:∃ N,N=Lib.nDigits u:=⟨_,rfl⟩
 rw [←hN]at hND
 have hN1:1≤N:=by rw [hN];exact Lib.nDigits_pos u
 have dlt:decide (v<0)=true:=decide_eq_true (by omega)
 have d1:((n:Int)==0)=false:=beq_eq_false_iff_ne.mpr (by omega)
 have w1_:IntKind.i64.wrap (9*(n:Int))=9*(n:Int):=IntWalk.i64_in _ (by omega)
 have w2_:IntKind.i64.wrap (9*(n:Int)+1)=9*(n:Int)+1:=IntWalk.i64_in _ (by omega)
 have hk0:=blk_new w (.cells #[.int .i64 v,.bool false,.slice none 0 0] 163)
 have hb0:=z2q (Below.refl w.heap.size w) (.cells #[.int .i64 v,.bool false,.slice none 0 0] 163)
 have HU:=Lib.hid hu;have HN:=Lib.hid hn;have HNN:=Lib.hid hN;have HND:=Lib.hid hND;have HV:=Lib.hid hv;have HK0:=Lib.hid hk0;have HB0:=Lib.hid hb0;have H1:=Lib.hid h1;have H2:=Lib.hid h2;have HZ2:=Lib.hid hz2
 clear hu hn hN hv hk0 hb0 h1 h2 hz2 hND
 go_enter Tryz.func135,Tryz.ntmps135
 go_wp2_with fail
 refine(HU.out _).mono ?_;rintro e w1 ⟨rfl,hl,hb⟩
 simp only [World.size_alloc]at hl hb
 have HK1:=Lib.hid (z12q HK0.out (by simpa only [World.size_alloc]using hb))
 have HL1:=Lib.hid hl
 have HB1:=Lib.hid (z5q HB0.out (by simpa only [World.size_alloc]using hb))
 clear hl hb HK0 HB0
 go_wp2_with (at_make;refine wpList_make_own _ rfl _ _ 116 rfl w.heap.size 5 i0 (.int .u8 0) 1 Tryz.underlying116 hi hz0 hz1 _ _ _ (9*n+1) rfl rfl (by push_cast;rfl) (by rw [HZ2.out];omega) (by unfold maxLen;omega) HB1.out.size ?_)
 intro w2 hown hgrow
 have HK2:=Lib.hid (blk_grown HK1.out hgrow (by simp));have HL2:=Lib.hid (blk_grown HL1.out hgrow (by simp))
 have HB2:=Lib.hid (HB1.out.grown hgrow HB1.out.size (fun k h=>by cases h))
 have HO:=Lib.hid hown
 have hlt1:Hid (w.heap.size<w1.heap.size∧w.heap.size+1+1<w1.heap.size):=Lib.hid ⟨z20q HK1.out,z20q HL1.out⟩
 clear hown hgrow HK1 HL1
 have HO0:Hid (World.ownsRow w2 w.heap.size 5 1 (.slice (some ⟨w1.heap.size,0,none⟩) (9*0) (9*n+1)) (9*0) (digs u (9*0))):=Lib.hid (by simpa [digs]using HO.out)
 clear HO
 go_wp2_with fail
 go_loopw [23,4] (fun i s w'=>∃ j:Nat,j≤n∧i= .int .i64 j∧s=(.slice (some ⟨w1.heap.size,0,none⟩) (9*j) (9*n+1))∧Hid (World.ownsRow w' w.heap.size 5 1 (.slice (some ⟨w1.heap.size,0,none⟩) (9*j) (9*n+1)) (9*j) (digs u (9*j)))∧Hid (w'.heap[w.heap.size]? =some (.cells #[.int .i64 v,.bool false,.slice none 0 0] 163 (0,0)))∧Hid (w'.heap[w.heap.size+1+1]? =some (.cells (limbC u) 179 (0,0)))∧Hid (Below w.heap.size w w')) (fun i _ _=>n-(intOf i).toNat)
 case atStart=>exact⟨0,Nat.zero_le _,rfl,rfl,HO0,HK2,HL2,HB2⟩
 case round=>
  clear HO0 HK2 HL2 HB2
  obtain⟨j,hj,rfl,rfl,HO,HK,HL,HB⟩:=hrel
  by_cases hlt:j<n
  ·have hc:=(z1q HL.out j).trans (limbC_at u j H2.out (by have:=HN.out;omega))
   have hj2:j<2:=by omega
   rw [show 9*j=9*j+0 from rfl]at HO
   have hx0:limb u j / 10 ^ 0=limb u j:=by simp
   have HX0:=Lib.hid hx0;clear hx0
   go_wp2_with fail
   go_loopw [7,6,4] (fun k x s w'=>∃ q:Nat,q≤9∧k= .int .i64 q∧x= .int .u32 ((limb u j / 10 ^ q:Nat):Int)∧s=(.slice (some ⟨w1.heap.size,0,none⟩) (9*j+q) (9*n+1))∧Hid (World.ownsRow w' w.heap.size 5 1 (.slice (some ⟨w1.heap.size,0,none⟩) (9*j+q) (9*n+1)) (9*j+q) (digs u (9*j+q)))∧Hid (w'.heap[w.heap.size]? =some (.cells #[.int .i64 v,.bool false,.slice none 0 0] 163 (0,0)))∧Hid (w'.heap[w.heap.size+1+1]? =some (.cells (limbC u) 179 (0,0)))∧Hid (Below w.heap.size w w')) (fun k _ _ _=>9-(intOf k).toNat)
   case atStart=>exact⟨0,by omega,rfl,by rw [HX0.out],rfl,HO,HK,HL,HB⟩
   case round=>
    clear HO HK HL HB hc HX0
    obtain⟨q,hq,rfl,rfl,rfl,HO,HK,HL,HB⟩:=hrel
    by_cases hq9:q<9
    ·obtain⟨X,hX⟩:∃ X,X=limb u j / 10 ^ q:=⟨_,rfl⟩
     have hX9:X≤999999999:=by rw [hX];exact limb_le u j q
     have hdg:=limb_digit u j q hq9
     have hnx:limb u j / 10 ^ (q+1)=X / 10:=by rw [hX,Nat.div_div_eq_div_mul,Nat.pow_succ]
     rw [←hX]at hdg ⊢
     have g1:decide ((q:Int)<9)=true:=decide_eq_true (by omega)
     have HDG:=Lib.hid hdg;have HNX:=Lib.hid hnx;clear hdg hnx hX
     go_wp2_with (at_builtin;refine wpList_append_fits _ rfl (.tmp 34) (.tmp 39) 116 rfl w.heap.size 5 i0 1 Tryz.underlying116 hi hz1 w1.heap.size (9*j+q) (9*n+1) _ rfl (HO.out.alloc _) ⟨wr.heap.size,0,none⟩ 1 1 [.int .u8 (48+(X:Int) % 10)] rfl rfl (by intro t z ht;match t,ht with|0,ht=>simp at ht;subst ht;simp [Addr.add]) (by intro z hz;simp at hz;subst hz;rfl) (by omega) ?_;intro w3 hown hgrow)
     have HKn:=Lib.hid (blk_grown (z10q HK.out _) hgrow (by have:=hlt1.out;intro h;injection h with h;omega));clear HK;have HK:=HKn;clear HKn
     have HLn:=Lib.hid (blk_grown (z10q HL.out _) hgrow (by have:=hlt1.out;intro h;injection h with h;omega));clear HL;have HL:=HLn;clear HLn
     have HBn:=Lib.hid ((z2q HB.out _).grown hgrow (z2q HB.out _).size (fun k h=>by have:=hlt1.out;injection h with h;omega));clear HB;have HB:=HBn;clear HBn
     have HOn:=Lib.hid hown;clear hown hgrow HO
     go_wp2_with fail
     go_roundw
     case rel=>exact⟨q+1,by omega,by go_num,by rw [HNX.out];first|rfl|(congr 1;omega),rfl,Lib.hid (by have:=HOn.out;rw [show 9*j+(q+1)=9*j+q+1 from rfl,digs_succ,HDG.out];first|exact this|simpa using this),HK,HL,HB⟩
     case measure=>simp [intOf];omega
    ·obtain rfl:q=9:=by omega
     have g1:decide (((9:Nat):Int)<9)=false:=rfl
     go_wp2_with fail
     go_roundw
     case rel=>exact⟨j+1,by omega,by go_num,by rw [show 9*(j+1)=9*j+9 from rfl],by rw [show 9*(j+1)=9*j+9 from rfl];exact HO,HK,HL,HB⟩
     case measure=>simp [intOf];omega
  ·obtain rfl:j=n:=by omega
   clear hlt hj HL
   have w3_:IntKind.i64.wrap (((9*j:Nat):Int))=((9*j:Nat):Int):=IntWalk.i64_in _ (by omega)
   go_wp2_with fail
   go_loopw [8] (fun m w'=>∃ q:Nat,N≤q∧q≤9*j∧m= .int .i64 q∧w'=wr) (fun m _=>(intOf m).toNat)
   case atStart=>exact⟨9*j,HND.out,Nat.le_refl _,by go_num,rfl⟩
   case round=>
    obtain⟨q,hq1,hq2,rfl,rfl⟩:=hrel
    have hc:=(HO.out.cellAt (q-1) (by omega)).trans (digs_at u (9*j) (q-1) (by omega))
    have e1:IntKind.i64.wrap ((q:Int)-1)=((q-1:Nat):Int):=by rw [IntWalk.i64_in _ (by omega)];omega
    have g1:decide ((q:Int) > 0)=true:=decide_eq_true (by omega)
    by_cases hqn:N<q
    ·have hz:(digI u (q-1)==48)=true:=beq_iff_eq.mpr (dig_over u (q-1) (by have:=HNN.out;omega))
     go_wp2_with fail
     go_roundw
     case rel=>exact⟨q-1,by omega,by omega,by first|rfl|go_num,by first|rfl|trivial⟩
     case measure=>simp [intOf];omega
    ·obtain rfl:q=N:=by omega
     have hz:(digI u (q-1)==48)=false:=beq_eq_false_iff_ne.mpr (by have:=dig_top u H1.out;rw [HNN.out];exact this)
     have w4_:IntKind.i64.wrap ((q:Int)+1)=(q:Int)+1:=IntWalk.i64_in _ (by omega)
     obtain⟨tb,htb⟩:∃ tb,wr.heap.size=tb:=⟨_,rfl⟩
     have hlt2:Hid (w.heap.size<tb∧w1.heap.size<tb):=Lib.hid ⟨by rw [←htb];exact z20q HK.out,by rw [←htb];exact(HO.out.lt _ rfl).2⟩
     have HTB:=Lib.hid htb;clear htb
     go_wp2_with (at_make;refine wpList_make_own _ rfl _ _ 116 rfl w.heap.size 5 i0 (.int .u8 0) 1 Tryz.underlying116 hi hz0 hz1 _ _ _ (q+1) rfl rfl (by push_cast;rfl) (by rw [HZ2.out];omega) (by unfold maxLen;omega) HB.out.size ?_)
     intro w4 hown hgrow
     rw [HTB.out]at hown ⊢
     have HKn:=Lib.hid (blk_grown HK.out hgrow (by simp));clear HK;have HK:=HKn;clear HKn
     have HOn:=Lib.hid (HO.out.kept hgrow (.inr (by simp [Value.ownBlock])));clear HO;have HO:=HOn;clear HOn
     have HBn:=Lib.hid (HB.out.grown hgrow HB.out.size (fun k h=>by cases h));clear HB;have HB:=HBn;clear HBn
     have HT:=Lib.hid hown;clear hown hgrow hc
     have k0:=z1q HK.out 0;have k1:=z1q HK.out 1;have k2:=z1q HK.out 2;simp at k0 k1 k2
     go_wp2_with (first|(go_at_call 151;(with_reducible refine(l1Neg_calls v _ dlt _).mono ?_);rintro e w' ⟨rfl,rfl⟩)|(at_builtin;refine wpList_append_fits _ rfl (.tmp 63) (.tmp 64) 116 rfl w.heap.size 5 i0 1 Tryz.underlying116 hi hz1 tb 0 (q+1) _ rfl ((HT.out.alloc _).alloc _) ⟨w4.heap.size+1,0,none⟩ 1 1 [.int .u8 45] rfl rfl (by intro t z ht;match t,ht with|0,ht=>simp at ht;subst ht;simp [Addr.add]) (by intro z hz;simp at hz;subst hz;rfl) (by omega) ?_;intro w5 hown hgrow))
     have HT5:=Lib.hid hown
     have HOn:=Lib.hid (World.ownsRow.kept ((HO.out.alloc _).alloc _) hgrow (.inr (by have:=hlt2.out;simp [Value.ownBlock];omega)));clear HO;have HO:=HOn;clear HOn
     have HBn:=Lib.hid ((z2q (z2q HB.out _) _).grown hgrow (z2q (z2q HB.out _) _).size (fun k h=>by have:=hlt2.out;injection h with h;omega));clear HB;have HB:=HBn;clear HBn
     clear hown hgrow HT;have HT:=HT5;clear HT5
     go_wp2_with fail
     clear k0 k1 k2 HK
     go_loopw [10,9] (fun i s w'=>∃ p:Nat,p≤q∧i= .int .i64 ((q:Int)-1-p)∧s=(.slice (some ⟨tb,0,none⟩) (p+1) (q+1))∧Hid (World.ownsRow w' w.heap.size 5 1 (.slice (some ⟨tb,0,none⟩) (p+1) (q+1)) (p+1) (([45] ++ outD u q p).map (Value.int .u8)))∧Hid (World.ownsRow w' w.heap.size 5 1 (.slice (some ⟨w1.heap.size,0,none⟩) (9*j) (9*j+1)) (9*j) (digs u (9*j)))∧Hid (Below w.heap.size w w')) (fun i _ _=>(intOf i+1).toNat)
     case atStart=>
      exact⟨0,Nat.zero_le _,by go_num,rfl,Lib.hid (by first|exact HT.out|simpa [outD]using HT.out),HO,HB⟩
     case round=>
      clear HO HB HT
      obtain⟨p,hp,rfl,rfl,HT,HO,HB⟩:=hrel
      by_cases hpq:p<q
      ·obtain⟨z,hz_⟩:∃ z:Nat,(q:Int)-1-p=(z:Int):=⟨q-1-p,by omega⟩
       rw [hz_]
       have hzn:z=q-1-p:=by omega
       have hz9:z<9*j:=by omega
       have hc:=(HO.out.cellAt z (by omega)).trans (digs_at u (9*j) z (by omega))
       have g2:decide ((z:Int)≥0)=true:=decide_eq_true (by omega)
       have g3:IntKind.i64.wrap ((z:Int)-1)=(z:Int)-1:=IntWalk.i64_in _ (by omega)
       have HZ:=Lib.hid hz_;have HZN:=Lib.hid hzn;clear hz_ hzn
       go_wp2_with (at_builtin;refine wpList_append_fits _ rfl (.tmp 72) (.tmp 77) 116 rfl w.heap.size 5 i0 1 Tryz.underlying116 hi hz1 tb (p+1) (q+1) _ rfl (HT.out.alloc _) ⟨wr.heap.size,0,none⟩ 1 1 [.int .u8 (digI u z)] rfl rfl (by intro t z ht;match t,ht with|0,ht=>simp at ht;subst ht;simp [Addr.add]) (by intro z hz;simp at hz;subst hz;rfl) (by omega) ?_;intro w6 hown hgrow)
       have HT6:=Lib.hid hown
       have HOn:=Lib.hid (World.ownsRow.kept (HO.out.alloc _) hgrow (.inr (by have:=hlt2.out;simp [Value.ownBlock];omega)));clear HO;have HO:=HOn;clear HOn
       have HBn:=Lib.hid ((z2q HB.out _).grown hgrow (z2q HB.out _).size (fun k h=>by have:=hlt2.out;injection h with h;omega));clear HB;have HB:=HBn;clear HBn
       clear hown hgrow HT hc;have HT:=HT6;clear HT6
       go_wp2_with fail
       go_roundw
       case rel=>exact⟨p+1,by omega,by have:=HZ.out;go_num,rfl,Lib.hid (by have:=HT.out;rw [outD_succ,←HZN.out];rw [←List.append_assoc,List.map_append];exact this),HO,HB⟩
       case measure=>have:=HZ.out;(simp [intOf]<;>omega)
      ·obtain rfl:p=q:=by omega
       have e5:(p:Int)-1-p= -1:=by omega
       rw [e5]
       have hcv:(convert 116 9 (.slice (some ⟨tb,0,none⟩) (p+1) (p+1))).run Tryz.prog wr= .ok (.string (strOfNums ([45] ++ outD u p p))) wr:=by
        refine string_of_reads Tryz.underlying116 Tryz.underlying5 Tryz.underlying9 ⟨by(try simp [outD_length])<;>omega,by(try simp [outD_length])<;>omega,fun _=>⟨_,rfl,fun i hi_=> ?_⟩⟩
        have e6:(Addr.add ⟨tb,0,none⟩ i)=⟨tb,i,none⟩:=by simp [Addr.add];intro h;exact h.symm
        rw [e6,HT.out.cellAt i (by omega)]
        have hl_:i<([45] ++ outD u p p).length:=by simp [outD_length]<;>omega
        rw [List.getElem?_map,List.getElem?_eq_getElem hl_,List.getD_eq_getElem?_getD,List.getElem?_eq_getElem hl_];rfl
       clear e5
       go_wp2_with fail
       go_ret
       refine⟨?_,HB.out⟩
       rw [HV.out,←out_neg u H1.out,←HNN.out];rfl

set_option maxHeartbeats 2000000 in
theorem l1Text_zero (w:World):
  Calls Tryz.prog 135 #[.agg #[.int .i64 0,.bool false,.slice none 0 0]] w fun e w'=>e= .returned (.string ⟨(Lib.itoa 0).toArray⟩)∧Below w.heap.size w w':=by
 have e0:Lib.itoa 0= [48]:=by simp [Lib.itoa,Lib.decDigits]
 have hb0:=z2q (Below.refl w.heap.size w) (.cells #[.int .i64 0,.bool false,.slice none 0 0] 163)
 have HB0:=Lib.hid hb0;have HE:=Lib.hid e0;clear hb0 e0
 go_enter Tryz.func135,Tryz.ntmps135
 go_wp2_with fail
 refine(l1Limbs_zero _).mono ?_;rintro e w1 ⟨rfl,hb⟩
 have HB1:=Lib.hid (z5q HB0.out (by simpa only [World.size_alloc]using hb));clear hb
 go_wp2_with fail
 go_ret
 exact⟨by rw [HE.out];rfl,HB1.out⟩

theorem l1Text_calls (v:Int) (h1: -1000000000000000000<v) (h2:v<1000000000000000000) (w:World):
  Calls Tryz.prog 135 #[.agg #[.int .i64 v,.bool false,.slice none 0 0]] w fun e w'=>e= .returned (.string ⟨(Lib.itoa v).toArray⟩)∧Below w.heap.size w w':=by
 rcases Int.lt_trichotomy v 0 with h|rfl|h
 ·obtain⟨u,rfl⟩:∃ u:Nat,v= -(u:Int):=⟨v.natAbs,by omega⟩
  exact l1Text_neg u (by omega) (by omega) w
 ·exact l1Text_zero w
 ·obtain⟨u,rfl⟩:∃ u:Nat,v=(u:Int):=⟨v.natAbs,by omega⟩
  exact l1Text_pos u (by omega) (by omega) w

set_option maxHeartbeats 2000000 in
set_option maxRecDepth 100000 in
theorem l1Num_calls (n:Int) (h1: -1000000000000000000<n) (h2:n<1000000000000000000) (w:World):
  Calls Tryz.prog 118 #[.int .i64 n] w fun e w'=>e= .returned (.string ⟨(Lib.itoa n).toArray⟩)∧Below w.heap.size w w':=by
 obtain⟨q,hq⟩:∃ q,q=n.tdiv 10:=⟨_,rfl⟩
 obtain⟨r,hr⟩:∃ r,r=n.tmod 10:=⟨_,rfl⟩
 have hs:=Int.mul_tdiv_add_tmod n 10
 rw [←hq,←hr]at hs
 have hr1: -9≤r∧r≤9∧(n<0→r≤0)∧(0≤n→0≤r):=by rw [hr];exact tmod10 n
 have hq2: -99999999999999999≤q∧q≤99999999999999999:=by omega
 have e1:IntKind.i64.wrap q=q:=IntWalk.i64_in _ (by omega)
 have e2:q*10+r=n:=by omega
 have c1:=fun w=>l1Small_calls q (by omega) (by omega) w
 have c2:=fun w=>l1Small_calls 10 (by omega) (by omega) w
 have c3:=fun w=>l1Mul10_calls q hq2.1 hq2.2 w
 have c4:=fun w=>l1Small_calls r (by omega) (by omega) w
 have c5:=fun w=>l1Add_calls (q*10) r (by omega) (by omega) w
 have c6:=fun w=>l1Text_calls n h1 h2 w
 rw [e2]at c5
 have C1:=Lib.hid c1;have C2:=Lib.hid c2;have C3:=Lib.hid c3;have C4:=Lib.hid c4;have C5:=Lib.hid c5;have C6:=Lib.hid c6;have HE2:=Lib.hid e2
 have hq':=hq.symm;have hr':=hr.symm
 clear c1 c2 c3 c4 c5 c6 hs hr1 hq2 h1 h2 hq hr e2
 go_enter Tryz.func118,Tryz.ntmps118
 go_wp2_with fail
 refine(C1.out _).mono ?_;rintro e w1 ⟨rfl,hb⟩
 have HB:=Lib.hid hb;clear hb
 go_wp2_with fail
 refine(C2.out _).mono ?_;rintro e w2 ⟨rfl,hb⟩
 have HB2:=Lib.hid (z5q HB.out hb);clear hb HB
 go_wp2_with fail
 refine(C3.out _).mono ?_;rintro e w3 ⟨rfl,hb⟩
 have HB3:=Lib.hid (z5q HB2.out hb);clear hb HB2
 go_wp2_with fail
 refine(C4.out _).mono ?_;rintro e w4 ⟨rfl,hb⟩
 have HB4:=Lib.hid (z5q HB3.out hb);clear hb HB3
 go_wp2_with fail
 refine(C5.out _).mono ?_;rintro e w5 ⟨rfl,hb⟩
 have HB5:=Lib.hid (z5q HB4.out hb);clear hb HB4
 go_wp2_with fail
 refine(C6.out _).mono ?_;rintro e w6 ⟨rfl,hb⟩
 have HB6:=Lib.hid (z5q HB5.out hb);clear hb HB5
 go_wp2_with fail
 go_ret
 exact⟨rfl,HB6.out⟩



def spec_l1Num.f (a0:Int):Option ByteArray:=if -1000000000000000000<a0∧a0<1000000000000000000 then some ⟨(Lib.itoa a0).toArray⟩else none

theorem spec_l1Num.calls (a0:Int) (r:ByteArray) (w:World) (h:spec_l1Num.f a0=some r):
  Calls Tryz.prog 118 #[.int .i64 a0] w fun e w'=>e= .returned (.string r)∧Below w.heap.size w w':=by
 unfold spec_l1Num.f at h
 by_cases hs: -1000000000000000000<a0∧a0<1000000000000000000
 ·rw [if_pos hs]at h
  obtain rfl:=Option.some.inj h
  exact l1Num_calls a0 hs.1 hs.2 w
 ·rw [if_neg hs]at h;cases h




/-! ### spec_l3Fix: function 166 -/

def spec_l3Fix.f (a0:Bool):Option (ByteArray):=if a0=true then(some (⟨#[36]⟩:ByteArray))else(some (⟨#[]⟩:ByteArray))

set_option maxHeartbeats 8000000 in
set_option maxRecDepth 100000 in
theorem spec_l3Fix.calls (a0:Bool) (r:ByteArray) (w:World) (h:spec_l3Fix.f a0=some r):
  Calls Tryz.prog 166 #[.bool a0] w fun e w'=>e= .returned (.string r)∧Drawn0 w w':=by
 have H:(if a0=true then(some (⟨#[36]⟩:ByteArray))else(some (⟨#[]⟩:ByteArray)))=some r:=h
 clear h
 by_cases c2:a0=true
 ·subst c2
  have H1:(some (⟨#[36]⟩:ByteArray))=some r:=by rw [if_pos rfl]at H;exact H
  clear H
  have H:=H1
  clear H1
  obtain rfl:=Option.some.inj H
  go_enter Tryz.func166,Tryz.ntmps166
  go_wp2
  go_ret
  exact⟨by first|rfl|(simp;done)|(simp [*];done),by repeat(first|exact Drawn0.refl _|apply Drawn0.step)⟩
 ·replace c2:=Bool.eq_false_iff.mpr c2
  subst c2
  have H1:(some (⟨#[]⟩:ByteArray))=some r:=by rw [if_neg (show ¬ (false=true)by decide)]at H;exact H
  clear H
  have H:=H1
  clear H1
  obtain rfl:=Option.some.inj H
  go_enter Tryz.func166,Tryz.ntmps166
  go_wp2
  go_ret
  exact⟨by first|rfl|(simp;done)|(simp [*];done),by repeat(first|exact Drawn0.refl _|apply Drawn0.step)⟩



/-! ### spec_RefText: function 149 -/

def spec_RefText.f (k:Nat) (a0_0:Int) (a0_1:Int) (a0_2:Bool) (a0_3:Bool):Option (ByteArray):=(spec_GoodRef.f a0_0 a0_1 a0_2 a0_3).bind fun t295=>(if t295=true then((spec_l3Fix.f a0_3).bind fun t296=>((spec_ColName.f k a0_1).bind fun t297=>(if t296.size+t297.size≤9223372036854775807 then((spec_l3Fix.f a0_2).bind fun t298=>(if(t296 ++ t297).size+t298.size≤9223372036854775807 then((spec_l1Num.f a0_0).bind fun t299=>(if((t296 ++ t297) ++ t298).size+t299.size≤9223372036854775807 then(some (((t296 ++ t297) ++ t298) ++ t299))else(none)))else(none)))else(none))))else(some (⟨#[]⟩:ByteArray)))

theorem spec_RefText.mono:∀ a0 a1 a2 a3 k,LeO (spec_RefText.f k a0 a1 a2 a3) (spec_RefText.f (k+1) a0 a1 a2 a3):=by
 intro a0 a1 a2 a3 k
 unfold spec_RefText.f
 repeat' first
   |(with_reducible exact spec_ColName.mono _ _)
   |(with_reducible exact LeO.refl _)
   |(with_reducible exact LeO.none _)
   |(with_reducible refine LeO.ite ?_ ?_)
   |(with_reducible refine LeO.bind ?_ (fun _=> ?_))
   |exact spec_ColName.mono _ _
   |exact LeO.none _
   |refine LeO.ite ?_ ?_
   |refine LeO.bind ?_ (fun _=> ?_)

def spec_RefText.T3:Bool×List (List Nat×List Nat):=(true, [([], []),([0], [0]),([1], [1]),([], []),([3], [3]),([4,2], [4]),([2,5], [2,5]),([], []),([7], [7]),([8,5], [8]),([6,9], [6,9]),([], []),([11], [11]),([12,9], [12]),([10,13], [10,13]),([14,13,0,1,2,3,4,5,6,7,8,9,10,11,12,13,14], [14])])

def spec_RefText.B3:List Nat:= [0,1,3,0,8,31,63,0,128,447,1023,0,2048,7103,16383,32767]

theorem spec_RefText.tab3:rtab .any (opsOf Tryz.f149 3)=spec_RefText.T3:=by kernel_rfl

theorem spec_RefText.bits3:waitsOk spec_RefText.T3.2 spec_RefText.B3=true:=by kernel_rfl

end Go.Proofs.YtegdpgpbdcediaaGreatDoor.PFnExactUsedNames
