/- Functions of the program as Lean functions, and proofs that the Go code comes to their answers: for the law FnExactUsedNames; made out of the print by a program of mine (compact.py). No conditions but each theorem's own. -/
import Derived.Test.YtegdpgpbdcediaaGreatDoorMFnExactUsedNamesa0
namespace Go.Proofs.YtegdpgpbdcediaaGreatDoor.PFnExactUsedNames
open List (map_toArray map_cons map_nil length_drop length_take set_cons_zero set_cons_succ setIfInBounds_toArray)
open Go.RowKit Go.Proofs.YtegdpgpbdcediaaGreatDoorW.PrintWords Go.Proofs.YtegdpgpbdcediaaGreatDoorW.PrintLast Go.Proofs.YtegdpgpbdcediaaGreatDoorW.PrintMore
attribute [local go_sem] max2_int min2_int max_two min_two max_three min_three max_four min_four   -- for this text's walks alone
set_option linter.unusedVariables false
set_option linter.unusedSimpArgs false

attribute [local go_sem high] eqA47 eqA65
set_option maxHeartbeats 8000000 in
set_option maxRecDepth 100000 in
theorem laws_toNodeS.calls (k:Nat) (A0:Option Addr) (c0:Nat) (l0:List (S64)) (r:List (S67)) (w:World) (hr0:Kd.C k64 w A0 l0.length l0) (hc0:l0.length≤c0) (h:laws_toNodeS.f k l0=some r):
  Calls Tryz.prog 11 #[.slice A0 l0.length c0] w fun e w'=>∃ v0_:Value,e= .returned (v0_)∧Kd.R k67 67 w' w.heap.size (fun _=>True) v0_ r∧Below w.heap.size w w':=by
 have hu64:=Tryz.underlying64
 have hu67:=Tryz.underlying67
 have HR0:=Aside0.mk hr0
 have HC0:=Aside0.mk hc0
 clear hr0 hc0
 have HB:=Aside0.mk (Below.refl w.heap.size w)
 have H:(if 0≤(l0.length:Int)then(if((l0.length:Int):Int).toNat≤2706490160679 then(laws_toNodeS.l0 k l0 (List.replicate ((l0.length:Int):Int).toNat z67) 0)else(none))else(none))=some r:=h
 clear h
 by_cases c2:0≤(l0.length:Int)
 ·rw [if_pos c2]at H
  have c2b0:=eq_true c2
  have c2b1:decide (0≤(l0.length:Int))=true:=decide_eq_true c2
  clear c2
  by_cases c3:((l0.length:Int):Int).toNat≤2706490160679
  ·rw [if_pos c3]at H
   have c3b0:=eq_true c3
   have c3b1:decide (((l0.length:Int):Int).toNat≤2706490160679)=true:=decide_eq_true c3
   clear c3
   obtain⟨y124,hy124⟩:∃ y_:List (S67),y_=(List.replicate ((l0.length:Int):Int).toNat z67):=⟨_,rfl⟩
   replace H:(laws_toNodeS.l0 k l0 y124 0)=some r:=by first|(rw [hy124];with_reducible exact H)|(have H2_:=(Option.bind_some _ _).symm.trans H;rw [hy124];with_reducible exact H2_)|(have H2_:=(Option.bind_some _ _).symm.trans H;with_reducible exact H2_)|with_reducible exact H|(rw [hy124];exact H)|exact H
   have Ny124:=Aside0.mk hy124
   clear hy124
   have H':=Aside0.mk H
   clear H
   go_enter Tryz.func11,Tryz.ntmps11
   go_wp2_with (first|((with_reducible refine z15q (N:=7) rfl ?_);refine Kd.R_make k67 _ 67 rfl (N:=7) rfl 25 _ _ rfl (l0.length:Int) rfl rfl Tryz.underlying25 (.agg #[(.int .i64 0),(.string ⟨#[]⟩),(.bool false),(.int .i64 0),(.int .i64 0),(.int .i64 0),(.int .i64 0),(.bool false),(.bool false),(.int .i64 0),(.int .i64 0),(.bool false),(.bool false),(.int .i64 0)]) 104 info67 rfl (by decide) (by omega) z67 (ok:=fun _=>True) (okp:=fun _=>True) (k67_mkM _ _ _ z67) (fun _ hk=>hk) trivial (of_decide_eq_true (by first|(with_reducible assumption)|assumption)) (Nat.le_trans (Nat.mul_le_mul_right _ (of_decide_eq_true (by first|(with_reducible assumption)|assumption):(l0.length:Int).toNat≤2706490160679)) (by omega)) (Below.refl _ _) (Nat.le_refl _) ?_;intro v125 w4 ho5 hb hg_ hnew_;clear hg_ hnew_;(first|rw [←Ny124.out]at ho5|(simp only [Int.reduceToNat]at ho5;rw [←Ny124.out]at ho5));have n0_:=Aside0.mk (Kd.R_lower ho5 (z6q (ibh HB.out)));have n1_:=Aside0.mk (z5q (ibh HB.out) hb);clear HB;have HO126:=n0_;have HB:=n1_;clear n0_ n1_;clear hb ho5))
   go_loopg [4] k (fun kq v4 w'=>∃ (x3_1:List (S67)) (x4_1:Int),v4= .int .i64 x4_1∧Aside0 (laws_toNodeS.l0 kq l0 x3_1 x4_1=some r)∧Aside0 (kq≤k)∧Aside0 (Kd.R k67 67 w' w.heap.size (fun _=>True) v125 x3_1)∧Aside0 (Below w.heap.size w w'))
   case atStart=>exact⟨(y124),(0),(by first|rfl|(simp;done)|(simp [*];done)|(simp;unfold wrap64;omega)),H',⟨Nat.le_refl _⟩,⟨by(with_reducible repeat(first|apply Kd.R_alloc|apply Kd.R_drewN|apply Kd.R_drew));exact HO126.out⟩,⟨by repeat(first|(with_reducible first|exact HB.out|apply z2q|apply z3q|apply z4q)|exact HB.out)⟩⟩
   case round=>
    clear H'
    try clear c1
    try clear c2
    try clear c2b0
    try clear c2b1
    try clear p2
    try clear c3
    try clear c3b0
    try clear c3b1
    obtain⟨x3_1,x4_1,rfl,HA,HK1,HO_3,HB⟩:=hrel
    cases gk with
    |zero=>exact absurd HA.out (by simp [laws_toNodeS.l0])
    |succ k1=>
     have H:=HA.out
     clear HA
     simp only [laws_toNodeS.l0]at H
     by_cases c6:x4_1<(l0.length:Int)
     ·rw [if_pos c6]at H
      have c6b0:decide (x4_1<(l0.length:Int))=true:=decide_eq_true c6
      clear c6
      by_cases c7:0≤x4_1
      ·rw [if_pos c7]at H
       have c7b0:decide (0≤x4_1)=true:=decide_eq_true c7
       clear c7
       replace H:=Option.bind_eq_some_iff.mp H
       obtain⟨⟨t128,t129,t130,t131,t132,t133,t134,t135,t136,t137,t138,t139,t140,t141⟩,A80,H⟩:=H
       replace H:(if x4_1<(x3_1.length:Int)then(laws_toNodeS.l0 k1 l0 (x3_1.set (x4_1:Int).toNat (⟨t128,t129,(⟨t130,t131,t132⟩:S65),(⟨t133,t134,t135,t136⟩:S47),(⟨t137,t138,t139,t140⟩:S47),t141⟩:S67)) (wrap64 (x4_1+1)))else(none))=some r:=H
       have A8:=Aside0.mk A80
       clear A80
       by_cases c9:x4_1<(x3_1.length:Int)
       ·rw [if_pos c9]at H
        have c9b0:decide (x4_1<(x3_1.length:Int))=true:=decide_eq_true c9
        clear c9
        obtain⟨y142,hy142⟩:∃ y_:List (S67),y_=(x3_1.set (x4_1:Int).toNat (⟨t128,t129,(⟨t130,t131,t132⟩:S65),(⟨t133,t134,t135,t136⟩:S47),(⟨t137,t138,t139,t140⟩:S47),t141⟩:S67)):=⟨_,rfl⟩
        replace H:(laws_toNodeS.l0 k1 l0 y142 (wrap64 (x4_1+1)))=some r:=by first|(rw [hy142];with_reducible exact H)|(have H2_:=(Option.bind_some _ _).symm.trans H;rw [hy142];with_reducible exact H2_)|(have H2_:=(Option.bind_some _ _).symm.trans H;with_reducible exact H2_)|with_reducible exact H|(rw [hy142];exact H)|exact H
        have Ny142:=Aside0.mk hy142
        clear hy142
        have H':=Aside0.mk H
        clear H
        have p127:0≤(x4_1:Int):=of_decide_eq_true (by first|(with_reducible assumption)|assumption)
        have q127:x4_1<(l0.length:Int):=of_decide_eq_true (by first|(with_reducible assumption)|assumption)
        obtain⟨ad127,e127,hx127_0,hx127_1,hx127_2,hx127_3,hx127_4,hx127_5,hx127_6,hx127_7,hx127_8,hx127_9,hx127_10,hx127_11,hx127_12,hx127_13⟩:=at_T64 HR0.out x4_1 p127 q127
        cases e127
        replace hx127_0:=(hbc HB.out hx127_0).trans hx127_0
        replace hx127_1:=(hbc HB.out hx127_1).trans hx127_1
        replace hx127_2:=(hbc HB.out hx127_2).trans hx127_2
        replace hx127_3:=(hbc HB.out hx127_3).trans hx127_3
        replace hx127_4:=(hbc HB.out hx127_4).trans hx127_4
        replace hx127_5:=(hbc HB.out hx127_5).trans hx127_5
        replace hx127_6:=(hbc HB.out hx127_6).trans hx127_6
        replace hx127_7:=(hbc HB.out hx127_7).trans hx127_7
        replace hx127_8:=(hbc HB.out hx127_8).trans hx127_8
        replace hx127_9:=(hbc HB.out hx127_9).trans hx127_9
        replace hx127_10:=(hbc HB.out hx127_10).trans hx127_10
        replace hx127_11:=(hbc HB.out hx127_11).trans hx127_11
        replace hx127_12:=(hbc HB.out hx127_12).trans hx127_12
        replace hx127_13:=(hbc HB.out hx127_13).trans hx127_13
        replace p127:=eq_true p127
        replace q127:=eq_true q127
        go_wp2_with (first|((with_reducible refine z8q (f:=36) rfl ?_);refine z17q (some 20) rfl rfl Tryz.func36 (by kernel_rfl) rfl #[.agg #[.int .i64 ((rd_T64 l0 x4_1).f0),.string ((rd_T64 l0 x4_1).f1),.bool ((rd_T64 l0 x4_1).f2.f0),.int .i64 ((rd_T64 l0 x4_1).f2.f1),.int .i64 ((rd_T64 l0 x4_1).f2.f2),.int .i64 ((rd_T64 l0 x4_1).f3.f0),.int .i64 ((rd_T64 l0 x4_1).f3.f1),.bool ((rd_T64 l0 x4_1).f3.f2),.bool ((rd_T64 l0 x4_1).f3.f3),.int .i64 ((rd_T64 l0 x4_1).f4.f0),.int .i64 ((rd_T64 l0 x4_1).f4.f1),.bool ((rd_T64 l0 x4_1).f4.f2),.bool ((rd_T64 l0 x4_1).f4.f3),.int .i64 ((rd_T64 l0 x4_1).f5)]] rfl (by(try simp only [map_toArray,map_cons,map_nil]);first|done|rfl|(simp only [length_drop,length_take];rfl)) ?_;(with_reducible refine(laws_toNode.calls ((rd_T64 l0 x4_1).f0) ((rd_T64 l0 x4_1).f1) ((rd_T64 l0 x4_1).f2.f0) ((rd_T64 l0 x4_1).f2.f1) ((rd_T64 l0 x4_1).f2.f2) ((rd_T64 l0 x4_1).f3.f0) ((rd_T64 l0 x4_1).f3.f1) ((rd_T64 l0 x4_1).f3.f2) ((rd_T64 l0 x4_1).f3.f3) ((rd_T64 l0 x4_1).f4.f0) ((rd_T64 l0 x4_1).f4.f1) ((rd_T64 l0 x4_1).f4.f2) ((rd_T64 l0 x4_1).f4.f3) ((rd_T64 l0 x4_1).f5) t128 t129 t130 t131 t132 t133 t134 t135 t136 t137 t138 t139 t140 t141 _ A8.out).mono ?_);rintro e w11 ⟨rfl,hb⟩;refine⟨_,rfl,?_⟩;have n0_:=Aside0.mk (Kd.R_below (ro HO_3.out) hb);have n1_:=Aside0.mk (z5q (ibh HB.out) hb);clear HO_3;clear HB;have HO_3:=n0_;have HB:=n1_;clear n0_ n1_;(try clear hb);(try clear hb2);(try clear hk);(try clear hi);have p10:0≤(x4_1:Int):=of_decide_eq_true (by first|(with_reducible assumption)|assumption);have q10:(x4_1:Int)<((x3_1.length:Int):Int):=of_decide_eq_true (by first|(with_reducible assumption)|assumption);obtain⟨go10,co10,eo10,gb10,gl10,cl10,HG10⟩:=Kd.R_form HO_3.out (by omega);(first|cases eo10|(injection eo10 with ea_ en_ ec_;(first|subst ea_|(injection ea_ with ea_;subst ea_));subst ec_;clear en_));have GB10:=Aside0.mk gb10;have GG10:=Aside0.mk HG10;clear gb10 gl10 HG10;obtain⟨ce10,hcl10,hM10,hcc10,hfr10⟩:=Kd.R_elem HO_3.out z67 (x4_1:Int) p10 q10;obtain rfl:=k67_openM hM10;have hx10_0:w11.cell? ⟨go10,(x4_1:Int).toNat*14,none⟩=some (.int .i64 ((rd_T67 x3_1 x4_1).f0)):=hcc10 0 _ rfl;have hx10_1:w11.cell? ⟨go10,(x4_1:Int).toNat*14+1,none⟩=some (.string ((rd_T67 x3_1 x4_1).f1)):=hcc10 1 _ rfl;have hx10_2:w11.cell? ⟨go10,(x4_1:Int).toNat*14+2,none⟩=some (.bool ((rd_T67 x3_1 x4_1).f2.f0)):=hcc10 2 _ rfl;have hx10_3:w11.cell? ⟨go10,(x4_1:Int).toNat*14+3,none⟩=some (.int .i64 ((rd_T67 x3_1 x4_1).f2.f1)):=hcc10 3 _ rfl;have hx10_4:w11.cell? ⟨go10,(x4_1:Int).toNat*14+4,none⟩=some (.int .i64 ((rd_T67 x3_1 x4_1).f2.f2)):=hcc10 4 _ rfl;have hx10_5:w11.cell? ⟨go10,(x4_1:Int).toNat*14+5,none⟩=some (.int .i64 ((rd_T67 x3_1 x4_1).f3.f0)):=hcc10 5 _ rfl;have hx10_6:w11.cell? ⟨go10,(x4_1:Int).toNat*14+6,none⟩=some (.int .i64 ((rd_T67 x3_1 x4_1).f3.f1)):=hcc10 6 _ rfl;have hx10_7:w11.cell? ⟨go10,(x4_1:Int).toNat*14+7,none⟩=some (.bool ((rd_T67 x3_1 x4_1).f3.f2)):=hcc10 7 _ rfl;have hx10_8:w11.cell? ⟨go10,(x4_1:Int).toNat*14+8,none⟩=some (.bool ((rd_T67 x3_1 x4_1).f3.f3)):=hcc10 8 _ rfl;have hx10_9:w11.cell? ⟨go10,(x4_1:Int).toNat*14+9,none⟩=some (.int .i64 ((rd_T67 x3_1 x4_1).f4.f0)):=hcc10 9 _ rfl;have hx10_10:w11.cell? ⟨go10,(x4_1:Int).toNat*14+10,none⟩=some (.int .i64 ((rd_T67 x3_1 x4_1).f4.f1)):=hcc10 10 _ rfl;have hx10_11:w11.cell? ⟨go10,(x4_1:Int).toNat*14+11,none⟩=some (.bool ((rd_T67 x3_1 x4_1).f4.f2)):=hcc10 11 _ rfl;have hx10_12:w11.cell? ⟨go10,(x4_1:Int).toNat*14+12,none⟩=some (.bool ((rd_T67 x3_1 x4_1).f4.f3)):=hcc10 12 _ rfl;have hx10_13:w11.cell? ⟨go10,(x4_1:Int).toNat*14+13,none⟩=some (.int .i64 ((rd_T67 x3_1 x4_1).f5)):=hcc10 13 _ rfl;have hf10_0:w11.frozen? ⟨go10,(x4_1:Int).toNat*14,none⟩=false:=hfr10 0;have hf10_1:w11.frozen? ⟨go10,(x4_1:Int).toNat*14+1,none⟩=false:=hfr10 1;have hf10_2:w11.frozen? ⟨go10,(x4_1:Int).toNat*14+2,none⟩=false:=hfr10 2;have hf10_3:w11.frozen? ⟨go10,(x4_1:Int).toNat*14+3,none⟩=false:=hfr10 3;have hf10_4:w11.frozen? ⟨go10,(x4_1:Int).toNat*14+4,none⟩=false:=hfr10 4;have hf10_5:w11.frozen? ⟨go10,(x4_1:Int).toNat*14+5,none⟩=false:=hfr10 5;have hf10_6:w11.frozen? ⟨go10,(x4_1:Int).toNat*14+6,none⟩=false:=hfr10 6;have hf10_7:w11.frozen? ⟨go10,(x4_1:Int).toNat*14+7,none⟩=false:=hfr10 7;have hf10_8:w11.frozen? ⟨go10,(x4_1:Int).toNat*14+8,none⟩=false:=hfr10 8;have hf10_9:w11.frozen? ⟨go10,(x4_1:Int).toNat*14+9,none⟩=false:=hfr10 9;have hf10_10:w11.frozen? ⟨go10,(x4_1:Int).toNat*14+10,none⟩=false:=hfr10 10;have hf10_11:w11.frozen? ⟨go10,(x4_1:Int).toNat*14+11,none⟩=false:=hfr10 11;have hf10_12:w11.frozen? ⟨go10,(x4_1:Int).toNat*14+12,none⟩=false:=hfr10 12;have hf10_13:w11.frozen? ⟨go10,(x4_1:Int).toNat*14+13,none⟩=false:=hfr10 13;clear hcl10 hcc10 hfr10 hM10;replace p10:=eq_true p10;replace q10:=eq_true q10;have HX12:=Aside0.mk (show Kd.R k67 67 w11 w.heap.size (fun _=>True) (.slice (some ⟨go10,0,none⟩) x3_1.length co10) x3_1 from(ro HO_3.out));obtain⟨ce12,hcl12,hM12,hcc12,hfr12⟩:=Kd.R_elem HX12.out z67 (x4_1:Int) (of_decide_eq_true (by first|(with_reducible assumption)|assumption)) (by have h_:(x4_1:Int)<((x3_1.length:Int):Int):=of_decide_eq_true (by first|(with_reducible assumption)|assumption);first|exact h_|(have e_:=(Kd.R_reads' HO_3.out).1;omega)|simpa using h_);obtain rfl:=k67_openM hM12;have HP12:=Kd.R_seg HX12.out (x4_1:Int) (of_decide_eq_true (by first|(with_reducible assumption)|assumption)) (by have h_:(x4_1:Int)<((x3_1.length:Int):Int):=of_decide_eq_true (by first|(with_reducible assumption)|assumption);first|exact h_|(have e_:=(Kd.R_reads' HO_3.out).1;omega)|simpa using h_) (seg:= [.int .i64 t128,.string t129,.bool t130,.int .i64 t131,.int .i64 t132,.int .i64 t133,.int .i64 t134,.bool t135,.bool t136,.int .i64 t137,.int .i64 t138,.bool t139,.bool t140,.int .i64 t141]) (j:=0) hcl12 hcc12 (show 14≤14 from by decide) (x':=(⟨t128,t129,(⟨t130,t131,t132⟩:S65),(⟨t133,t134,t135,t136⟩:S47),(⟨t137,t138,t139,t140⟩:S47),t141⟩:S67)) (k67_mkM _ _ _ (⟨t128,t129,(⟨t130,t131,t132⟩:S65),(⟨t133,t134,t135,t136⟩:S47),(⟨t137,t138,t139,t140⟩:S47),t141⟩:S67)) (fun _ hk=>hk);have hx12_0:=hcc12 0 _ rfl;(try simp only [show(k67).sz=14 from rfl,Nat.mul_one,Nat.add_zero]at hx12_0);have hf12_0:=hfr12 0;(try simp only [show(k67).sz=14 from rfl,Nat.mul_one,Nat.add_zero]at hf12_0);have hx12_1:=hcc12 1 _ rfl;(try simp only [show(k67).sz=14 from rfl,Nat.mul_one,Nat.add_zero]at hx12_1);have hf12_1:=hfr12 1;(try simp only [show(k67).sz=14 from rfl,Nat.mul_one,Nat.add_zero]at hf12_1);have hx12_2:=hcc12 2 _ rfl;(try simp only [show(k67).sz=14 from rfl,Nat.mul_one,Nat.add_zero]at hx12_2);have hf12_2:=hfr12 2;(try simp only [show(k67).sz=14 from rfl,Nat.mul_one,Nat.add_zero]at hf12_2);have hx12_3:=hcc12 3 _ rfl;(try simp only [show(k67).sz=14 from rfl,Nat.mul_one,Nat.add_zero]at hx12_3);have hf12_3:=hfr12 3;(try simp only [show(k67).sz=14 from rfl,Nat.mul_one,Nat.add_zero]at hf12_3);have hx12_4:=hcc12 4 _ rfl;(try simp only [show(k67).sz=14 from rfl,Nat.mul_one,Nat.add_zero]at hx12_4);have hf12_4:=hfr12 4;(try simp only [show(k67).sz=14 from rfl,Nat.mul_one,Nat.add_zero]at hf12_4);have hx12_5:=hcc12 5 _ rfl;(try simp only [show(k67).sz=14 from rfl,Nat.mul_one,Nat.add_zero]at hx12_5);have hf12_5:=hfr12 5;(try simp only [show(k67).sz=14 from rfl,Nat.mul_one,Nat.add_zero]at hf12_5);have hx12_6:=hcc12 6 _ rfl;(try simp only [show(k67).sz=14 from rfl,Nat.mul_one,Nat.add_zero]at hx12_6);have hf12_6:=hfr12 6;(try simp only [show(k67).sz=14 from rfl,Nat.mul_one,Nat.add_zero]at hf12_6);have hx12_7:=hcc12 7 _ rfl;(try simp only [show(k67).sz=14 from rfl,Nat.mul_one,Nat.add_zero]at hx12_7);have hf12_7:=hfr12 7;(try simp only [show(k67).sz=14 from rfl,Nat.mul_one,Nat.add_zero]at hf12_7);have hx12_8:=hcc12 8 _ rfl;(try simp only [show(k67).sz=14 from rfl,Nat.mul_one,Nat.add_zero]at hx12_8);have hf12_8:=hfr12 8;(try simp only [show(k67).sz=14 from rfl,Nat.mul_one,Nat.add_zero]at hf12_8);have hx12_9:=hcc12 9 _ rfl;(try simp only [show(k67).sz=14 from rfl,Nat.mul_one,Nat.add_zero]at hx12_9);have hf12_9:=hfr12 9;(try simp only [show(k67).sz=14 from rfl,Nat.mul_one,Nat.add_zero]at hf12_9);have hx12_10:=hcc12 10 _ rfl;(try simp only [show(k67).sz=14 from rfl,Nat.mul_one,Nat.add_zero]at hx12_10);have hf12_10:=hfr12 10;(try simp only [show(k67).sz=14 from rfl,Nat.mul_one,Nat.add_zero]at hf12_10);have hx12_11:=hcc12 11 _ rfl;(try simp only [show(k67).sz=14 from rfl,Nat.mul_one,Nat.add_zero]at hx12_11);have hf12_11:=hfr12 11;(try simp only [show(k67).sz=14 from rfl,Nat.mul_one,Nat.add_zero]at hf12_11);have hx12_12:=hcc12 12 _ rfl;(try simp only [show(k67).sz=14 from rfl,Nat.mul_one,Nat.add_zero]at hx12_12);have hf12_12:=hfr12 12;(try simp only [show(k67).sz=14 from rfl,Nat.mul_one,Nat.add_zero]at hf12_12);have hx12_13:=hcc12 13 _ rfl;(try simp only [show(k67).sz=14 from rfl,Nat.mul_one,Nat.add_zero]at hx12_13);have hf12_13:=hfr12 13;(try simp only [show(k67).sz=14 from rfl,Nat.mul_one,Nat.add_zero]at hf12_13);clear hcl12 hcc12 hfr12 hM12)|((with_reducible refine gate_store (t:=67) (p:=21) rfl ?_);refine store_event (t:=67) (p:=21) (v:= ?vo_w13) (w1:=((((((((((((((w11.setCell ⟨go10,(x4_1:Int).toNat*14,none⟩ (.int .i64 t128)).setCell ⟨go10,(x4_1:Int).toNat*14+1,none⟩ (.string t129)).setCell ⟨go10,(x4_1:Int).toNat*14+2,none⟩ (.bool t130)).setCell ⟨go10,(x4_1:Int).toNat*14+3,none⟩ (.int .i64 t131)).setCell ⟨go10,(x4_1:Int).toNat*14+4,none⟩ (.int .i64 t132)).setCell ⟨go10,(x4_1:Int).toNat*14+5,none⟩ (.int .i64 t133)).setCell ⟨go10,(x4_1:Int).toNat*14+6,none⟩ (.int .i64 t134)).setCell ⟨go10,(x4_1:Int).toNat*14+7,none⟩ (.bool t135)).setCell ⟨go10,(x4_1:Int).toNat*14+8,none⟩ (.bool t136)).setCell ⟨go10,(x4_1:Int).toNat*14+9,none⟩ (.int .i64 t137)).setCell ⟨go10,(x4_1:Int).toNat*14+10,none⟩ (.int .i64 t138)).setCell ⟨go10,(x4_1:Int).toNat*14+11,none⟩ (.bool t139)).setCell ⟨go10,(x4_1:Int).toNat*14+12,none⟩ (.bool t140)).setCell ⟨go10,(x4_1:Int).toNat*14+13,none⟩ (.int .i64 t141))) ?hg ?ho ?hn ?hr ?_;(case ho=>rfl);(case hg=>rfl);(case hn=>rfl);(case hr=>first|(go_simp;done)|(go_simp;rfl));intro w13 hw;have hg:w11.grownBy w13 (some go10):=(by rw [hw];exact HP12.2);have hp_:Kd.R k67 67 w13 w.heap.size (fun _=>True) (.slice (some ⟨go10,0,none⟩) x3_1.length co10) y142:=(by rw [hw,Ny142.out];exact HP12.1);clear HP12;have n0_:=Aside0.mk (hp_);have n1_:=Aside0.mk ((by rw [hw];exact z7q (z7q (z7q (z7q (z7q (z7q (z7q (z7q (z7q (z7q (z7q (z7q (z7q (z7q (HB.out) GB10.out) GB10.out) GB10.out) GB10.out) GB10.out) GB10.out) GB10.out) GB10.out) GB10.out) GB10.out) GB10.out) GB10.out) GB10.out) GB10.out:Below w.heap.size w w13));clear HO_3;clear HB;have HO_3:=n0_;have HB:=n1_;clear n0_ n1_;clear hg hw hp_))
        go_roundg k1
        case measure=>have:=HK1.out;omega
        case rel=>exact⟨(y142),(wrap64 (x4_1+1)),(by first|rfl|(simp;done)|(simp [*];done)|(simp;unfold wrap64;omega)),H',⟨by have:=HK1.out;omega⟩,⟨by(with_reducible repeat(first|apply Kd.R_alloc|apply Kd.R_drewN|apply Kd.R_drew));exact HO_3.out⟩,⟨by repeat(first|(with_reducible first|exact HB.out|apply z2q|apply z3q|apply z4q)|exact HB.out)⟩⟩
       ·rw [if_neg c9]at H
        exact absurd H (by simp)
      ·rw [if_neg c7]at H
       exact absurd H (by simp)
     ·rw [if_neg c6]at H
      have c6b0:decide (x4_1<(l0.length:Int))=false:=decide_eq_false c6
      clear c6
      obtain rfl:=Option.some.inj H
      go_wp2
      go_ret
      exact⟨_,by first|rfl|(simp [errW_none,errW_some]<;>rfl)|(simp [*,errW_none,errW_some]<;>rfl),by(with_reducible repeat(first|apply Kd.R_alloc|apply Kd.R_drewN|apply Kd.R_drew));exact HO_3.out,by repeat(first|(with_reducible first|exact HB.out|apply z2q|apply z3q|apply z4q)|exact HB.out)⟩
  ·rw [if_neg c3]at H
   exact absurd H (by simp)
 ·rw [if_neg c2]at H
  exact absurd H (by simp)



/-! ### laws_eqDec: function 75 -/

def laws_eqDec.f (a0_0:Bool) (a0_1:Int) (a0_2:Int) (a1_0:Bool) (a1_1:Int) (a1_2:Int):Option (Bool):=if(a0_0 !=a1_0)=true then(some false)else(if a0_1=a1_1 then(if a0_2=a1_2 then(some true)else(some false))else(some false))

set_option maxHeartbeats 8000000 in
set_option maxRecDepth 100000 in
theorem laws_eqDec.calls (a0_0:Bool) (a0_1:Int) (a0_2:Int) (a1_0:Bool) (a1_1:Int) (a1_2:Int) (r:Bool) (w:World) (h:laws_eqDec.f a0_0 a0_1 a0_2 a1_0 a1_1 a1_2=some r):
  Calls Tryz.prog 75 #[.agg #[.bool a0_0,.int .i64 a0_1,.int .i64 a0_2],.agg #[.bool a1_0,.int .i64 a1_1,.int .i64 a1_2]] w fun e w'=>e= .returned (.bool r)∧Below w.heap.size w w':=by
 have hu65:=Tryz.underlying65
 have HB:=Aside0.mk (Below.refl w.heap.size w)
 have H:(if(a0_0 !=a1_0)=true then(some false)else(if a0_1=a1_1 then(if a0_2=a1_2 then(some true)else(some false))else(some false)))=some r:=h
 clear h
 by_cases c3:(a0_0 !=a1_0)=true
 ·rw [if_pos c3]at H
  have c3b0:(a0_0 !=a1_0)=true:=c3
  (try(have c3b1:decide (a0_0=a1_0)=false:=by simpa using c3))
  (try(have c3b2:(a0_0==a1_0)=false:=by simpa using c3))
  (try(have c3b3:¬ (a0_0=a1_0):=by simpa using c3))
  clear c3
  obtain rfl:=Option.some.inj H
  go_enter Tryz.func75,Tryz.ntmps75
  go_wp2_with (first|((with_reducible refine z15q (N:=2) rfl ?_);refine z13q ?hg (N:=2) ?hd (cs:=#[.bool a0_0,.int .i64 a0_1,.int .i64 a0_2]) (t:=65) ?hr ?_;(case hd=>rfl);(case hg=>rfl);(case hr=>first|(go_simp;done)|(go_simp;rfl));intro gb143 hg w4 hbox hb;have n0_:=Aside0.mk (z5q (ibh HB.out) hb);have n1_:=Aside0.mk (hbox);have n2_:=Aside0.mk ((by rw [hg];exact(z6q (ibh HB.out)):w.heap.size≤gb143));have n3_:=Aside0.mk ((by rw [hg];exact(z6q (ibh HB.out)):w.heap.size≤gb143));clear HB;have HB:=n0_;have BK143:=n1_;have GW143:=n2_;have GE143:=n3_;clear n0_ n1_ n2_ n3_;clear hb hbox hg)|((with_reducible refine z15q (N:=3) rfl ?_);refine z13q ?hg (N:=3) ?hd (cs:=#[.bool a1_0,.int .i64 a1_1,.int .i64 a1_2]) (t:=65) ?hr ?_;(case hd=>rfl);(case hg=>rfl);(case hr=>first|(go_simp;done)|(go_simp;rfl));intro gb144 hg w5 hbox hb;have n0_:=Aside0.mk (z12q (cy BK143.out) hb);have n1_:=Aside0.mk (z5q (ibh HB.out) hb);have n2_:=Aside0.mk (hbox);have n3_:=Aside0.mk ((by rw [hg];exact(z6q (ibh HB.out)):w.heap.size≤gb144));have n4_:=Aside0.mk ((by rw [hg];exact(z6q (ibh HB.out)):w.heap.size≤gb144));have n5_:=Aside0.mk ((by rw [hg];exact Nat.ne_of_lt (z20q (cy BK143.out)):gb143≠gb144));have n6_:=Aside0.mk ((by rw [hg];exact Nat.ne_of_gt (z20q (cy BK143.out)):gb144≠gb143));clear BK143;clear HB;have BK143:=n0_;have HB:=n1_;have BK144:=n2_;have GW144:=n3_;have GE144:=n4_;have NB143_144:=n5_;have NB144_143:=n6_;clear n0_ n1_ n2_ n3_ n4_ n5_ n6_;clear hb hbox hg;have hnb6:=NB143_144.out;have hnc6:=NB144_143.out;obtain⟨hcz7_0,hcz7_1,hcz7_2,hfz7_0,hfz7_1,hfz7_2⟩:=cr3 (w:=w5) (g:=gb143) BK143.out;obtain⟨hcz8_0,hcz8_1,hcz8_2,hfz8_0,hfz8_1,hfz8_2⟩:=cr3 (w:=w5) (g:=gb144) BK144.out))
  go_ret
  exact⟨by first|rfl|(simp [errW_none,errW_some]<;>rfl)|(simp [*,errW_none,errW_some]<;>rfl),by repeat(first|(with_reducible first|exact HB.out|apply z2q|apply z3q|apply z4q|refine z7q ?_ GE143.out|refine z7q ?_ GE144.out)|exact HB.out)⟩
 ·rw [if_neg c3]at H
  have c3b0:(a0_0 !=a1_0)=false:=by simpa using c3
  (try(have c3b1:decide (a0_0=a1_0)=true:=by simpa using c3))
  (try(have c3b2:(a0_0==a1_0)=true:=by simpa using c3))
  clear c3
  by_cases c9:a0_1=a1_1
  ·rw [if_pos c9]at H
   have c9b0:(a0_1==a1_1)=true:=beq_iff_eq.mpr c9
   have c9b1:(a0_1 !=a1_1)=false:=bne_eq_false_iff_eq.mpr c9
   clear c9
   by_cases c10:a0_2=a1_2
   ·rw [if_pos c10]at H
    have c10b0:(a0_2==a1_2)=true:=beq_iff_eq.mpr c10
    have c10b1:(a0_2 !=a1_2)=false:=bne_eq_false_iff_eq.mpr c10
    clear c10
    obtain rfl:=Option.some.inj H
    go_enter Tryz.func75,Tryz.ntmps75
    go_wp2_with (first|((with_reducible refine z15q (N:=2) rfl ?_);refine z13q ?hg (N:=2) ?hd (cs:=#[.bool a0_0,.int .i64 a0_1,.int .i64 a0_2]) (t:=65) ?hr ?_;(case hd=>rfl);(case hg=>rfl);(case hr=>first|(go_simp;done)|(go_simp;rfl));intro gb143 hg w11 hbox hb;have n0_:=Aside0.mk (z5q (ibh HB.out) hb);have n1_:=Aside0.mk (hbox);have n2_:=Aside0.mk ((by rw [hg];exact(z6q (ibh HB.out)):w.heap.size≤gb143));have n3_:=Aside0.mk ((by rw [hg];exact(z6q (ibh HB.out)):w.heap.size≤gb143));clear HB;have HB:=n0_;have BK143:=n1_;have GW143:=n2_;have GE143:=n3_;clear n0_ n1_ n2_ n3_;clear hb hbox hg)|((with_reducible refine z15q (N:=3) rfl ?_);refine z13q ?hg (N:=3) ?hd (cs:=#[.bool a1_0,.int .i64 a1_1,.int .i64 a1_2]) (t:=65) ?hr ?_;(case hd=>rfl);(case hg=>rfl);(case hr=>first|(go_simp;done)|(go_simp;rfl));intro gb144 hg w12 hbox hb;have n0_:=Aside0.mk (z12q (cy BK143.out) hb);have n1_:=Aside0.mk (z5q (ibh HB.out) hb);have n2_:=Aside0.mk (hbox);have n3_:=Aside0.mk ((by rw [hg];exact(z6q (ibh HB.out)):w.heap.size≤gb144));have n4_:=Aside0.mk ((by rw [hg];exact(z6q (ibh HB.out)):w.heap.size≤gb144));have n5_:=Aside0.mk ((by rw [hg];exact Nat.ne_of_lt (z20q (cy BK143.out)):gb143≠gb144));have n6_:=Aside0.mk ((by rw [hg];exact Nat.ne_of_gt (z20q (cy BK143.out)):gb144≠gb143));clear BK143;clear HB;have BK143:=n0_;have HB:=n1_;have BK144:=n2_;have GW144:=n3_;have GE144:=n4_;have NB143_144:=n5_;have NB144_143:=n6_;clear n0_ n1_ n2_ n3_ n4_ n5_ n6_;clear hb hbox hg;have hnb13:=NB143_144.out;have hnc13:=NB144_143.out;obtain⟨hcz14_0,hcz14_1,hcz14_2,hfz14_0,hfz14_1,hfz14_2⟩:=cr3 (w:=w12) (g:=gb143) BK143.out;obtain⟨hcz15_0,hcz15_1,hcz15_2,hfz15_0,hfz15_1,hfz15_2⟩:=cr3 (w:=w12) (g:=gb144) BK144.out))
    go_ret
    exact⟨by first|rfl|(simp [errW_none,errW_some]<;>rfl)|(simp [*,errW_none,errW_some]<;>rfl),by repeat(first|(with_reducible first|exact HB.out|apply z2q|apply z3q|apply z4q|refine z7q ?_ GE143.out|refine z7q ?_ GE144.out)|exact HB.out)⟩
   ·rw [if_neg c10]at H
    have c10b0:(a0_2==a1_2)=false:=beq_eq_false_iff_ne.mpr c10
    have c10b1:(a0_2 !=a1_2)=true:=bne_iff_ne.mpr c10
    obtain rfl:=Option.some.inj H
    go_enter Tryz.func75,Tryz.ntmps75
    go_wp2_with (first|((with_reducible refine z15q (N:=2) rfl ?_);refine z13q ?hg (N:=2) ?hd (cs:=#[.bool a0_0,.int .i64 a0_1,.int .i64 a0_2]) (t:=65) ?hr ?_;(case hd=>rfl);(case hg=>rfl);(case hr=>first|(go_simp;done)|(go_simp;rfl));intro gb143 hg w16 hbox hb;have n0_:=Aside0.mk (z5q (ibh HB.out) hb);have n1_:=Aside0.mk (hbox);have n2_:=Aside0.mk ((by rw [hg];exact(z6q (ibh HB.out)):w.heap.size≤gb143));have n3_:=Aside0.mk ((by rw [hg];exact(z6q (ibh HB.out)):w.heap.size≤gb143));clear HB;have HB:=n0_;have BK143:=n1_;have GW143:=n2_;have GE143:=n3_;clear n0_ n1_ n2_ n3_;clear hb hbox hg)|((with_reducible refine z15q (N:=3) rfl ?_);refine z13q ?hg (N:=3) ?hd (cs:=#[.bool a1_0,.int .i64 a1_1,.int .i64 a1_2]) (t:=65) ?hr ?_;(case hd=>rfl);(case hg=>rfl);(case hr=>first|(go_simp;done)|(go_simp;rfl));intro gb144 hg w17 hbox hb;have n0_:=Aside0.mk (z12q (cy BK143.out) hb);have n1_:=Aside0.mk (z5q (ibh HB.out) hb);have n2_:=Aside0.mk (hbox);have n3_:=Aside0.mk ((by rw [hg];exact(z6q (ibh HB.out)):w.heap.size≤gb144));have n4_:=Aside0.mk ((by rw [hg];exact(z6q (ibh HB.out)):w.heap.size≤gb144));have n5_:=Aside0.mk ((by rw [hg];exact Nat.ne_of_lt (z20q (cy BK143.out)):gb143≠gb144));have n6_:=Aside0.mk ((by rw [hg];exact Nat.ne_of_gt (z20q (cy BK143.out)):gb144≠gb143));clear BK143;clear HB;have BK143:=n0_;have HB:=n1_;have BK144:=n2_;have GW144:=n3_;have GE144:=n4_;have NB143_144:=n5_;have NB144_143:=n6_;clear n0_ n1_ n2_ n3_ n4_ n5_ n6_;clear hb hbox hg;have hnb18:=NB143_144.out;have hnc18:=NB144_143.out;obtain⟨hcz19_0,hcz19_1,hcz19_2,hfz19_0,hfz19_1,hfz19_2⟩:=cr3 (w:=w17) (g:=gb143) BK143.out;obtain⟨hcz20_0,hcz20_1,hcz20_2,hfz20_0,hfz20_1,hfz20_2⟩:=cr3 (w:=w17) (g:=gb144) BK144.out))
    go_ret
    exact⟨by first|rfl|(simp [errW_none,errW_some]<;>rfl)|(simp [*,errW_none,errW_some]<;>rfl),by repeat(first|(with_reducible first|exact HB.out|apply z2q|apply z3q|apply z4q|refine z7q ?_ GE143.out|refine z7q ?_ GE144.out)|exact HB.out)⟩
  ·rw [if_neg c9]at H
   have c9b0:(a0_1==a1_1)=false:=beq_eq_false_iff_ne.mpr c9
   have c9b1:(a0_1 !=a1_1)=true:=bne_iff_ne.mpr c9
   obtain rfl:=Option.some.inj H
   go_enter Tryz.func75,Tryz.ntmps75
   go_wp2_with (first|((with_reducible refine z15q (N:=2) rfl ?_);refine z13q ?hg (N:=2) ?hd (cs:=#[.bool a0_0,.int .i64 a0_1,.int .i64 a0_2]) (t:=65) ?hr ?_;(case hd=>rfl);(case hg=>rfl);(case hr=>first|(go_simp;done)|(go_simp;rfl));intro gb143 hg w21 hbox hb;have n0_:=Aside0.mk (z5q (ibh HB.out) hb);have n1_:=Aside0.mk (hbox);have n2_:=Aside0.mk ((by rw [hg];exact(z6q (ibh HB.out)):w.heap.size≤gb143));have n3_:=Aside0.mk ((by rw [hg];exact(z6q (ibh HB.out)):w.heap.size≤gb143));clear HB;have HB:=n0_;have BK143:=n1_;have GW143:=n2_;have GE143:=n3_;clear n0_ n1_ n2_ n3_;clear hb hbox hg)|((with_reducible refine z15q (N:=3) rfl ?_);refine z13q ?hg (N:=3) ?hd (cs:=#[.bool a1_0,.int .i64 a1_1,.int .i64 a1_2]) (t:=65) ?hr ?_;(case hd=>rfl);(case hg=>rfl);(case hr=>first|(go_simp;done)|(go_simp;rfl));intro gb144 hg w22 hbox hb;have n0_:=Aside0.mk (z12q (cy BK143.out) hb);have n1_:=Aside0.mk (z5q (ibh HB.out) hb);have n2_:=Aside0.mk (hbox);have n3_:=Aside0.mk ((by rw [hg];exact(z6q (ibh HB.out)):w.heap.size≤gb144));have n4_:=Aside0.mk ((by rw [hg];exact(z6q (ibh HB.out)):w.heap.size≤gb144));have n5_:=Aside0.mk ((by rw [hg];exact Nat.ne_of_lt (z20q (cy BK143.out)):gb143≠gb144));have n6_:=Aside0.mk ((by rw [hg];exact Nat.ne_of_gt (z20q (cy BK143.out)):gb144≠gb143));clear BK143;clear HB;have BK143:=n0_;have HB:=n1_;have BK144:=n2_;have GW144:=n3_;have GE144:=n4_;have NB143_144:=n5_;have NB144_143:=n6_;clear n0_ n1_ n2_ n3_ n4_ n5_ n6_;clear hb hbox hg;have hnb23:=NB143_144.out;have hnc23:=NB144_143.out;obtain⟨hcz24_0,hcz24_1,hcz24_2,hfz24_0,hfz24_1,hfz24_2⟩:=cr3 (w:=w22) (g:=gb143) BK143.out;obtain⟨hcz25_0,hcz25_1,hcz25_2,hfz25_0,hfz25_1,hfz25_2⟩:=cr3 (w:=w22) (g:=gb144) BK144.out))
   go_ret
   exact⟨by first|rfl|(simp [errW_none,errW_some]<;>rfl)|(simp [*,errW_none,errW_some]<;>rfl),by repeat(first|(with_reducible first|exact HB.out|apply z2q|apply z3q|apply z4q|refine z7q ?_ GE143.out|refine z7q ?_ GE144.out)|exact HB.out)⟩



/-! ### laws_eqRef: function 76 -/

def laws_eqRef.f (a0_0:Int) (a0_1:Int) (a0_2:Bool) (a0_3:Bool) (a1_0:Int) (a1_1:Int) (a1_2:Bool) (a1_3:Bool):Option (Bool):=if a0_0=a1_0 then(if a0_1=a1_1 then(if(a0_2 !=a1_2)=true then(some false)else(if(a0_3 !=a1_3)=true then(some false)else(some true)))else(some false))else(some false)

set_option maxHeartbeats 8000000 in
set_option maxRecDepth 100000 in
theorem laws_eqRef.calls (a0_0:Int) (a0_1:Int) (a0_2:Bool) (a0_3:Bool) (a1_0:Int) (a1_1:Int) (a1_2:Bool) (a1_3:Bool) (r:Bool) (w:World) (h:laws_eqRef.f a0_0 a0_1 a0_2 a0_3 a1_0 a1_1 a1_2 a1_3=some r):
  Calls Tryz.prog 76 #[.agg #[.int .i64 a0_0,.int .i64 a0_1,.bool a0_2,.bool a0_3],.agg #[.int .i64 a1_0,.int .i64 a1_1,.bool a1_2,.bool a1_3]] w fun e w'=>e= .returned (.bool r)∧Below w.heap.size w w':=by
 have hu47:=Tryz.underlying47
 have HB:=Aside0.mk (Below.refl w.heap.size w)
 have H:(if a0_0=a1_0 then(if a0_1=a1_1 then(if(a0_2 !=a1_2)=true then(some false)else(if(a0_3 !=a1_3)=true then(some false)else(some true)))else(some false))else(some false))=some r:=h
 clear h
 by_cases c3:a0_0=a1_0
 ·rw [if_pos c3]at H
  have c3b0:(a0_0==a1_0)=true:=beq_iff_eq.mpr c3
  have c3b1:(a0_0 !=a1_0)=false:=bne_eq_false_iff_eq.mpr c3
  clear c3
  by_cases c4:a0_1=a1_1
  ·rw [if_pos c4]at H
   have c4b0:(a0_1==a1_1)=true:=beq_iff_eq.mpr c4
   have c4b1:(a0_1 !=a1_1)=false:=bne_eq_false_iff_eq.mpr c4
   clear c4
   by_cases c5:(a0_2 !=a1_2)=true
   ·rw [if_pos c5]at H
    have c5b0:(a0_2 !=a1_2)=true:=c5
    (try(have c5b1:decide (a0_2=a1_2)=false:=by simpa using c5))
    (try(have c5b2:(a0_2==a1_2)=false:=by simpa using c5))
    (try(have c5b3:¬ (a0_2=a1_2):=by simpa using c5))
    clear c5
    obtain rfl:=Option.some.inj H
    go_enter Tryz.func76,Tryz.ntmps76
    go_wp2_with (first|((with_reducible refine z15q (N:=2) rfl ?_);refine z13q ?hg (N:=2) ?hd (cs:=#[.int .i64 a0_0,.int .i64 a0_1,.bool a0_2,.bool a0_3]) (t:=47) ?hr ?_;(case hd=>rfl);(case hg=>rfl);(case hr=>first|(go_simp;done)|(go_simp;rfl));intro gb145 hg w6 hbox hb;have n0_:=Aside0.mk (z5q (ibh HB.out) hb);have n1_:=Aside0.mk (hbox);have n2_:=Aside0.mk ((by rw [hg];exact(z6q (ibh HB.out)):w.heap.size≤gb145));have n3_:=Aside0.mk ((by rw [hg];exact(z6q (ibh HB.out)):w.heap.size≤gb145));clear HB;have HB:=n0_;have BK145:=n1_;have GW145:=n2_;have GE145:=n3_;clear n0_ n1_ n2_ n3_;clear hb hbox hg)|((with_reducible refine z15q (N:=3) rfl ?_);refine z13q ?hg (N:=3) ?hd (cs:=#[.int .i64 a1_0,.int .i64 a1_1,.bool a1_2,.bool a1_3]) (t:=47) ?hr ?_;(case hd=>rfl);(case hg=>rfl);(case hr=>first|(go_simp;done)|(go_simp;rfl));intro gb146 hg w7 hbox hb;have n0_:=Aside0.mk (z12q (cy BK145.out) hb);have n1_:=Aside0.mk (z5q (ibh HB.out) hb);have n2_:=Aside0.mk (hbox);have n3_:=Aside0.mk ((by rw [hg];exact(z6q (ibh HB.out)):w.heap.size≤gb146));have n4_:=Aside0.mk ((by rw [hg];exact(z6q (ibh HB.out)):w.heap.size≤gb146));have n5_:=Aside0.mk ((by rw [hg];exact Nat.ne_of_lt (z20q (cy BK145.out)):gb145≠gb146));have n6_:=Aside0.mk ((by rw [hg];exact Nat.ne_of_gt (z20q (cy BK145.out)):gb146≠gb145));clear BK145;clear HB;have BK145:=n0_;have HB:=n1_;have BK146:=n2_;have GW146:=n3_;have GE146:=n4_;have NB145_146:=n5_;have NB146_145:=n6_;clear n0_ n1_ n2_ n3_ n4_ n5_ n6_;clear hb hbox hg;have hnb8:=NB145_146.out;have hnc8:=NB146_145.out;obtain⟨hcz9_0,hcz9_1,hcz9_2,hcz9_3,hfz9_0,hfz9_1,hfz9_2,hfz9_3⟩:=cr4 (w:=w7) (g:=gb145) BK145.out;obtain⟨hcz10_0,hcz10_1,hcz10_2,hcz10_3,hfz10_0,hfz10_1,hfz10_2,hfz10_3⟩:=cr4 (w:=w7) (g:=gb146) BK146.out))
    go_ret
    exact⟨by first|rfl|(simp [errW_none,errW_some]<;>rfl)|(simp [*,errW_none,errW_some]<;>rfl),by repeat(first|(with_reducible first|exact HB.out|apply z2q|apply z3q|apply z4q|refine z7q ?_ GE145.out|refine z7q ?_ GE146.out)|exact HB.out)⟩
   ·rw [if_neg c5]at H
    have c5b0:(a0_2 !=a1_2)=false:=by simpa using c5
    (try(have c5b1:decide (a0_2=a1_2)=true:=by simpa using c5))
    (try(have c5b2:(a0_2==a1_2)=true:=by simpa using c5))
    clear c5
    by_cases c11:(a0_3 !=a1_3)=true
    ·rw [if_pos c11]at H
     have c11b0:(a0_3 !=a1_3)=true:=c11
     (try(have c11b1:decide (a0_3=a1_3)=false:=by simpa using c11))
     (try(have c11b2:(a0_3==a1_3)=false:=by simpa using c11))
     (try(have c11b3:¬ (a0_3=a1_3):=by simpa using c11))
     clear c11
     obtain rfl:=Option.some.inj H
     go_enter Tryz.func76,Tryz.ntmps76
     go_wp2_with (first|((with_reducible refine z15q (N:=2) rfl ?_);refine z13q ?hg (N:=2) ?hd (cs:=#[.int .i64 a0_0,.int .i64 a0_1,.bool a0_2,.bool a0_3]) (t:=47) ?hr ?_;(case hd=>rfl);(case hg=>rfl);(case hr=>first|(go_simp;done)|(go_simp;rfl));intro gb145 hg w12 hbox hb;have n0_:=Aside0.mk (z5q (ibh HB.out) hb);have n1_:=Aside0.mk (hbox);have n2_:=Aside0.mk ((by rw [hg];exact(z6q (ibh HB.out)):w.heap.size≤gb145));have n3_:=Aside0.mk ((by rw [hg];exact(z6q (ibh HB.out)):w.heap.size≤gb145));clear HB;have HB:=n0_;have BK145:=n1_;have GW145:=n2_;have GE145:=n3_;clear n0_ n1_ n2_ n3_;clear hb hbox hg)|((with_reducible refine z15q (N:=3) rfl ?_);refine z13q ?hg (N:=3) ?hd (cs:=#[.int .i64 a1_0,.int .i64 a1_1,.bool a1_2,.bool a1_3]) (t:=47) ?hr ?_;(case hd=>rfl);(case hg=>rfl);(case hr=>first|(go_simp;done)|(go_simp;rfl));intro gb146 hg w13 hbox hb;have n0_:=Aside0.mk (z12q (cy BK145.out) hb);have n1_:=Aside0.mk (z5q (ibh HB.out) hb);have n2_:=Aside0.mk (hbox);have n3_:=Aside0.mk ((by rw [hg];exact(z6q (ibh HB.out)):w.heap.size≤gb146));have n4_:=Aside0.mk ((by rw [hg];exact(z6q (ibh HB.out)):w.heap.size≤gb146));have n5_:=Aside0.mk ((by rw [hg];exact Nat.ne_of_lt (z20q (cy BK145.out)):gb145≠gb146));have n6_:=Aside0.mk ((by rw [hg];exact Nat.ne_of_gt (z20q (cy BK145.out)):gb146≠gb145));clear BK145;clear HB;have BK145:=n0_;have HB:=n1_;have BK146:=n2_;have GW146:=n3_;have GE146:=n4_;have NB145_146:=n5_;have NB146_145:=n6_;clear n0_ n1_ n2_ n3_ n4_ n5_ n6_;clear hb hbox hg;have hnb14:=NB145_146.out;have hnc14:=NB146_145.out;obtain⟨hcz15_0,hcz15_1,hcz15_2,hcz15_3,hfz15_0,hfz15_1,hfz15_2,hfz15_3⟩:=cr4 (w:=w13) (g:=gb145) BK145.out;obtain⟨hcz16_0,hcz16_1,hcz16_2,hcz16_3,hfz16_0,hfz16_1,hfz16_2,hfz16_3⟩:=cr4 (w:=w13) (g:=gb146) BK146.out))
     go_ret
     exact⟨by first|rfl|(simp [errW_none,errW_some]<;>rfl)|(simp [*,errW_none,errW_some]<;>rfl),by repeat(first|(with_reducible first|exact HB.out|apply z2q|apply z3q|apply z4q|refine z7q ?_ GE145.out|refine z7q ?_ GE146.out)|exact HB.out)⟩
    ·rw [if_neg c11]at H
     have c11b0:(a0_3 !=a1_3)=false:=by simpa using c11
     (try(have c11b1:decide (a0_3=a1_3)=true:=by simpa using c11))
     (try(have c11b2:(a0_3==a1_3)=true:=by simpa using c11))
     clear c11
     obtain rfl:=Option.some.inj H
     go_enter Tryz.func76,Tryz.ntmps76
     go_wp2_with (first|((with_reducible refine z15q (N:=2) rfl ?_);refine z13q ?hg (N:=2) ?hd (cs:=#[.int .i64 a0_0,.int .i64 a0_1,.bool a0_2,.bool a0_3]) (t:=47) ?hr ?_;(case hd=>rfl);(case hg=>rfl);(case hr=>first|(go_simp;done)|(go_simp;rfl));intro gb145 hg w17 hbox hb;have n0_:=Aside0.mk (z5q (ibh HB.out) hb);have n1_:=Aside0.mk (hbox);have n2_:=Aside0.mk ((by rw [hg];exact(z6q (ibh HB.out)):w.heap.size≤gb145));have n3_:=Aside0.mk ((by rw [hg];exact(z6q (ibh HB.out)):w.heap.size≤gb145));clear HB;have HB:=n0_;have BK145:=n1_;have GW145:=n2_;have GE145:=n3_;clear n0_ n1_ n2_ n3_;clear hb hbox hg)|((with_reducible refine z15q (N:=3) rfl ?_);refine z13q ?hg (N:=3) ?hd (cs:=#[.int .i64 a1_0,.int .i64 a1_1,.bool a1_2,.bool a1_3]) (t:=47) ?hr ?_;(case hd=>rfl);(case hg=>rfl);(case hr=>first|(go_simp;done)|(go_simp;rfl));intro gb146 hg w18 hbox hb;have n0_:=Aside0.mk (z12q (cy BK145.out) hb);have n1_:=Aside0.mk (z5q (ibh HB.out) hb);have n2_:=Aside0.mk (hbox);have n3_:=Aside0.mk ((by rw [hg];exact(z6q (ibh HB.out)):w.heap.size≤gb146));have n4_:=Aside0.mk ((by rw [hg];exact(z6q (ibh HB.out)):w.heap.size≤gb146));have n5_:=Aside0.mk ((by rw [hg];exact Nat.ne_of_lt (z20q (cy BK145.out)):gb145≠gb146));have n6_:=Aside0.mk ((by rw [hg];exact Nat.ne_of_gt (z20q (cy BK145.out)):gb146≠gb145));clear BK145;clear HB;have BK145:=n0_;have HB:=n1_;have BK146:=n2_;have GW146:=n3_;have GE146:=n4_;have NB145_146:=n5_;have NB146_145:=n6_;clear n0_ n1_ n2_ n3_ n4_ n5_ n6_;clear hb hbox hg;have hnb19:=NB145_146.out;have hnc19:=NB146_145.out;obtain⟨hcz20_0,hcz20_1,hcz20_2,hcz20_3,hfz20_0,hfz20_1,hfz20_2,hfz20_3⟩:=cr4 (w:=w18) (g:=gb145) BK145.out;obtain⟨hcz21_0,hcz21_1,hcz21_2,hcz21_3,hfz21_0,hfz21_1,hfz21_2,hfz21_3⟩:=cr4 (w:=w18) (g:=gb146) BK146.out))
     go_ret
     exact⟨by first|rfl|(simp [errW_none,errW_some]<;>rfl)|(simp [*,errW_none,errW_some]<;>rfl),by repeat(first|(with_reducible first|exact HB.out|apply z2q|apply z3q|apply z4q|refine z7q ?_ GE145.out|refine z7q ?_ GE146.out)|exact HB.out)⟩
  ·rw [if_neg c4]at H
   have c4b0:(a0_1==a1_1)=false:=beq_eq_false_iff_ne.mpr c4
   have c4b1:(a0_1 !=a1_1)=true:=bne_iff_ne.mpr c4
   obtain rfl:=Option.some.inj H
   go_enter Tryz.func76,Tryz.ntmps76
   go_wp2_with (first|((with_reducible refine z15q (N:=2) rfl ?_);refine z13q ?hg (N:=2) ?hd (cs:=#[.int .i64 a0_0,.int .i64 a0_1,.bool a0_2,.bool a0_3]) (t:=47) ?hr ?_;(case hd=>rfl);(case hg=>rfl);(case hr=>first|(go_simp;done)|(go_simp;rfl));intro gb145 hg w22 hbox hb;have n0_:=Aside0.mk (z5q (ibh HB.out) hb);have n1_:=Aside0.mk (hbox);have n2_:=Aside0.mk ((by rw [hg];exact(z6q (ibh HB.out)):w.heap.size≤gb145));have n3_:=Aside0.mk ((by rw [hg];exact(z6q (ibh HB.out)):w.heap.size≤gb145));clear HB;have HB:=n0_;have BK145:=n1_;have GW145:=n2_;have GE145:=n3_;clear n0_ n1_ n2_ n3_;clear hb hbox hg)|((with_reducible refine z15q (N:=3) rfl ?_);refine z13q ?hg (N:=3) ?hd (cs:=#[.int .i64 a1_0,.int .i64 a1_1,.bool a1_2,.bool a1_3]) (t:=47) ?hr ?_;(case hd=>rfl);(case hg=>rfl);(case hr=>first|(go_simp;done)|(go_simp;rfl));intro gb146 hg w23 hbox hb;have n0_:=Aside0.mk (z12q (cy BK145.out) hb);have n1_:=Aside0.mk (z5q (ibh HB.out) hb);have n2_:=Aside0.mk (hbox);have n3_:=Aside0.mk ((by rw [hg];exact(z6q (ibh HB.out)):w.heap.size≤gb146));have n4_:=Aside0.mk ((by rw [hg];exact(z6q (ibh HB.out)):w.heap.size≤gb146));have n5_:=Aside0.mk ((by rw [hg];exact Nat.ne_of_lt (z20q (cy BK145.out)):gb145≠gb146));have n6_:=Aside0.mk ((by rw [hg];exact Nat.ne_of_gt (z20q (cy BK145.out)):gb146≠gb145));clear BK145;clear HB;have BK145:=n0_;have HB:=n1_;have BK146:=n2_;have GW146:=n3_;have GE146:=n4_;have NB145_146:=n5_;have NB146_145:=n6_;clear n0_ n1_ n2_ n3_ n4_ n5_ n6_;clear hb hbox hg;have hnb24:=NB145_146.out;have hnc24:=NB146_145.out;obtain⟨hcz25_0,hcz25_1,hcz25_2,hcz25_3,hfz25_0,hfz25_1,hfz25_2,hfz25_3⟩:=cr4 (w:=w23) (g:=gb145) BK145.out;obtain⟨hcz26_0,hcz26_1,hcz26_2,hcz26_3,hfz26_0,hfz26_1,hfz26_2,hfz26_3⟩:=cr4 (w:=w23) (g:=gb146) BK146.out))
   go_ret
   exact⟨by first|rfl|(simp [errW_none,errW_some]<;>rfl)|(simp [*,errW_none,errW_some]<;>rfl),by repeat(first|(with_reducible first|exact HB.out|apply z2q|apply z3q|apply z4q|refine z7q ?_ GE145.out|refine z7q ?_ GE146.out)|exact HB.out)⟩
 ·rw [if_neg c3]at H
  have c3b0:(a0_0==a1_0)=false:=beq_eq_false_iff_ne.mpr c3
  have c3b1:(a0_0 !=a1_0)=true:=bne_iff_ne.mpr c3
  obtain rfl:=Option.some.inj H
  go_enter Tryz.func76,Tryz.ntmps76
  go_wp2_with (first|((with_reducible refine z15q (N:=2) rfl ?_);refine z13q ?hg (N:=2) ?hd (cs:=#[.int .i64 a0_0,.int .i64 a0_1,.bool a0_2,.bool a0_3]) (t:=47) ?hr ?_;(case hd=>rfl);(case hg=>rfl);(case hr=>first|(go_simp;done)|(go_simp;rfl));intro gb145 hg w27 hbox hb;have n0_:=Aside0.mk (z5q (ibh HB.out) hb);have n1_:=Aside0.mk (hbox);have n2_:=Aside0.mk ((by rw [hg];exact(z6q (ibh HB.out)):w.heap.size≤gb145));have n3_:=Aside0.mk ((by rw [hg];exact(z6q (ibh HB.out)):w.heap.size≤gb145));clear HB;have HB:=n0_;have BK145:=n1_;have GW145:=n2_;have GE145:=n3_;clear n0_ n1_ n2_ n3_;clear hb hbox hg)|((with_reducible refine z15q (N:=3) rfl ?_);refine z13q ?hg (N:=3) ?hd (cs:=#[.int .i64 a1_0,.int .i64 a1_1,.bool a1_2,.bool a1_3]) (t:=47) ?hr ?_;(case hd=>rfl);(case hg=>rfl);(case hr=>first|(go_simp;done)|(go_simp;rfl));intro gb146 hg w28 hbox hb;have n0_:=Aside0.mk (z12q (cy BK145.out) hb);have n1_:=Aside0.mk (z5q (ibh HB.out) hb);have n2_:=Aside0.mk (hbox);have n3_:=Aside0.mk ((by rw [hg];exact(z6q (ibh HB.out)):w.heap.size≤gb146));have n4_:=Aside0.mk ((by rw [hg];exact(z6q (ibh HB.out)):w.heap.size≤gb146));have n5_:=Aside0.mk ((by rw [hg];exact Nat.ne_of_lt (z20q (cy BK145.out)):gb145≠gb146));have n6_:=Aside0.mk ((by rw [hg];exact Nat.ne_of_gt (z20q (cy BK145.out)):gb146≠gb145));clear BK145;clear HB;have BK145:=n0_;have HB:=n1_;have BK146:=n2_;have GW146:=n3_;have GE146:=n4_;have NB145_146:=n5_;have NB146_145:=n6_;clear n0_ n1_ n2_ n3_ n4_ n5_ n6_;clear hb hbox hg;have hnb29:=NB145_146.out;have hnc29:=NB146_145.out;obtain⟨hcz30_0,hcz30_1,hcz30_2,hcz30_3,hfz30_0,hfz30_1,hfz30_2,hfz30_3⟩:=cr4 (w:=w28) (g:=gb145) BK145.out;obtain⟨hcz31_0,hcz31_1,hcz31_2,hcz31_3,hfz31_0,hfz31_1,hfz31_2,hfz31_3⟩:=cr4 (w:=w28) (g:=gb146) BK146.out))
  go_ret
  exact⟨by first|rfl|(simp [errW_none,errW_some]<;>rfl)|(simp [*,errW_none,errW_some]<;>rfl),by repeat(first|(with_reducible first|exact HB.out|apply z2q|apply z3q|apply z4q|refine z7q ?_ GE145.out|refine z7q ?_ GE146.out)|exact HB.out)⟩



/-! ### laws_eqNode: function 38 -/

def laws_eqNode.f (a0_0:Int) (a0_1:ByteArray) (a0_2:Bool) (a0_3:Int) (a0_4:Int) (a0_5:Int) (a0_6:Int) (a0_7:Bool) (a0_8:Bool) (a0_9:Int) (a0_10:Int) (a0_11:Bool) (a0_12:Bool) (a0_13:Int) (a1_0:Int) (a1_1:ByteArray) (a1_2:Bool) (a1_3:Int) (a1_4:Int) (a1_5:Int) (a1_6:Int) (a1_7:Bool) (a1_8:Bool) (a1_9:Int) (a1_10:Int) (a1_11:Bool) (a1_12:Bool) (a1_13:Int):Option (Bool):=if a0_0=a1_0 then(if a0_1.toList=a1_1.toList then((laws_eqDec.f a0_2 a0_3 a0_4 a1_2 a1_3 a1_4).bind fun t149=>(if t149=true then((laws_eqRef.f a0_5 a0_6 a0_7 a0_8 a1_5 a1_6 a1_7 a1_8).bind fun t150=>(if t150=true then((laws_eqRef.f a0_9 a0_10 a0_11 a0_12 a1_9 a1_10 a1_11 a1_12).bind fun t151=>(if t151=true then(if a0_13=a1_13 then(some true)else(some false))else(some false)))else(some false)))else(some false)))else(some false))else(some false)

theorem bcellE {W w1:World} (hb:Below W.heap.size W w1):(∀ b o,b<W.heap.size→w1.cell? ⟨b,o,none⟩=W.cell? ⟨b,o,none⟩)∧(∀ b o,b<W.heap.size→w1.frozen? ⟨b,o,none⟩=W.frozen? ⟨b,o,none⟩):=
 ⟨fun b o h=>hb.cell (p:=⟨b,o,none⟩) h,fun b o h=>hb.frozen (p:=⟨b,o,none⟩) h⟩
set_option maxHeartbeats 8000000 in
set_option maxRecDepth 100000 in
theorem laws_eqNode.calls (a0_0:Int) (a0_1:ByteArray) (a0_2:Bool) (a0_3:Int) (a0_4:Int) (a0_5:Int) (a0_6:Int) (a0_7:Bool) (a0_8:Bool) (a0_9:Int) (a0_10:Int) (a0_11:Bool) (a0_12:Bool) (a0_13:Int) (a1_0:Int) (a1_1:ByteArray) (a1_2:Bool) (a1_3:Int) (a1_4:Int) (a1_5:Int) (a1_6:Int) (a1_7:Bool) (a1_8:Bool) (a1_9:Int) (a1_10:Int) (a1_11:Bool) (a1_12:Bool) (a1_13:Int) (r:Bool) (w:World) (h:laws_eqNode.f a0_0 a0_1 a0_2 a0_3 a0_4 a0_5 a0_6 a0_7 a0_8 a0_9 a0_10 a0_11 a0_12 a0_13 a1_0 a1_1 a1_2 a1_3 a1_4 a1_5 a1_6 a1_7 a1_8 a1_9 a1_10 a1_11 a1_12 a1_13=some r):
  Calls Tryz.prog 38 #[.agg #[.int .i64 a0_0,.string a0_1,.bool a0_2,.int .i64 a0_3,.int .i64 a0_4,.int .i64 a0_5,.int .i64 a0_6,.bool a0_7,.bool a0_8,.int .i64 a0_9,.int .i64 a0_10,.bool a0_11,.bool a0_12,.int .i64 a0_13],.agg #[.int .i64 a1_0,.string a1_1,.bool a1_2,.int .i64 a1_3,.int .i64 a1_4,.int .i64 a1_5,.int .i64 a1_6,.bool a1_7,.bool a1_8,.int .i64 a1_9,.int .i64 a1_10,.bool a1_11,.bool a1_12,.int .i64 a1_13]] w fun e w'=>e= .returned (.bool r)∧Below w.heap.size w w':=by
 unfold laws_eqNode.f at h
 have HB:=Lib.hid (z2q (z2q (Below.refl w.heap.size w) (.cells #[.int .i64 a0_0,.string a0_1,.bool a0_2,.int .i64 a0_3,.int .i64 a0_4,.int .i64 a0_5,.int .i64 a0_6,.bool a0_7,.bool a0_8,.int .i64 a0_9,.int .i64 a0_10,.bool a0_11,.bool a0_12,.int .i64 a0_13] 67)) (.cells #[.int .i64 a1_0,.string a1_1,.bool a1_2,.int .i64 a1_3,.int .i64 a1_4,.int .i64 a1_5,.int .i64 a1_6,.bool a1_7,.bool a1_8,.int .i64 a1_9,.int .i64 a1_10,.bool a1_11,.bool a1_12,.int .i64 a1_13] 67))
 by_cases c0:a0_0=a1_0
 ·rw [if_pos c0]at h
  have b0:(a0_0 !=a1_0)=false:=bne_eq_false_iff_eq.mpr c0
  clear c0
  by_cases c1:a0_1.toList=a1_1.toList
  ·rw [if_pos c1]at h
   have b1:(a0_1.toList !=a1_1.toList)=false:=bne_eq_false_iff_eq.mpr c1;have b1e:(a0_1.toList==a1_1.toList)=true:=beq_iff_eq.mpr c1
   clear c1
   obtain⟨g1,hg1,h⟩:=Option.bind_eq_some_iff.mp h
   have G1:=Lib.hid hg1;clear hg1
   cases g1 with
   |false=>
    rw [if_neg (by decide)]at h
    obtain rfl:=Option.some.inj h
    clear h
    go_enter Tryz.func38,Tryz.ntmps38
    go_wp2_with fail
    refine(laws_eqDec.calls _ _ _ _ _ _ _ _ G1.out).mono ?_;rintro e w2 ⟨rfl,hb⟩
    obtain⟨hc2,hf2⟩:=bcellE hb
    have HB2:=Lib.hid (z5q HB.out hb)
    have hsz2:w.heap.size+1<w2.heap.size:=by have h_:=hb.size;simp at h_;omega
    have hsy2:w.heap.size<w2.heap.size:=by omega
    clear hb
    go_wp2_with fail
    go_ret
    exact⟨rfl,HB2.out⟩
   |true=>
    rw [if_pos rfl]at h
    obtain⟨g2,hg2,h⟩:=Option.bind_eq_some_iff.mp h
    have G2:=Lib.hid hg2;clear hg2
    cases g2 with
    |false=>
     rw [if_neg (by decide)]at h
     obtain rfl:=Option.some.inj h
     clear h
     go_enter Tryz.func38,Tryz.ntmps38
     go_wp2_with fail
     refine(laws_eqDec.calls _ _ _ _ _ _ _ _ G1.out).mono ?_;rintro e w2 ⟨rfl,hb⟩
     obtain⟨hc2,hf2⟩:=bcellE hb
     have HB2:=Lib.hid (z5q HB.out hb)
     have hsz2:w.heap.size+1<w2.heap.size:=by have h_:=hb.size;simp at h_;omega
     have hsy2:w.heap.size<w2.heap.size:=by omega
     clear hb
     go_wp2_with fail
     refine(laws_eqRef.calls _ _ _ _ _ _ _ _ _ _ G2.out).mono ?_;rintro e w3 ⟨rfl,hb⟩
     obtain⟨hc3,hf3⟩:=bcellE hb
     have HB3:=Lib.hid (z5q HB2.out hb)
     have hsz3:w.heap.size+1<w3.heap.size:=by have h_:=hb.size;omega
     have hsy3:w.heap.size<w3.heap.size:=by omega
     clear hb
     go_wp2_with fail
     go_ret
     exact⟨rfl,HB3.out⟩
    |true=>
     rw [if_pos rfl]at h
     obtain⟨g3,hg3,h⟩:=Option.bind_eq_some_iff.mp h
     have G3:=Lib.hid hg3;clear hg3
     cases g3 with
     |false=>
      rw [if_neg (by decide)]at h
      obtain rfl:=Option.some.inj h
      clear h
      go_enter Tryz.func38,Tryz.ntmps38
      go_wp2_with fail
      refine(laws_eqDec.calls _ _ _ _ _ _ _ _ G1.out).mono ?_;rintro e w2 ⟨rfl,hb⟩
      obtain⟨hc2,hf2⟩:=bcellE hb
      have HB2:=Lib.hid (z5q HB.out hb)
      have hsz2:w.heap.size+1<w2.heap.size:=by have h_:=hb.size;simp at h_;omega
      have hsy2:w.heap.size<w2.heap.size:=by omega
      clear hb
      go_wp2_with fail
      refine(laws_eqRef.calls _ _ _ _ _ _ _ _ _ _ G2.out).mono ?_;rintro e w3 ⟨rfl,hb⟩
      obtain⟨hc3,hf3⟩:=bcellE hb
      have HB3:=Lib.hid (z5q HB2.out hb)
      have hsz3:w.heap.size+1<w3.heap.size:=by have h_:=hb.size;omega
      have hsy3:w.heap.size<w3.heap.size:=by omega
      clear hb
      go_wp2_with fail
      refine(laws_eqRef.calls _ _ _ _ _ _ _ _ _ _ G3.out).mono ?_;rintro e w4 ⟨rfl,hb⟩
      obtain⟨hc4,hf4⟩:=bcellE hb
      have HB4:=Lib.hid (z5q HB3.out hb)
      have hsz4:w.heap.size+1<w4.heap.size:=by have h_:=hb.size;omega
      have hsy4:w.heap.size<w4.heap.size:=by omega
      clear hb
      go_wp2_with fail
      go_ret
      exact⟨rfl,HB4.out⟩
     |true=>
      rw [if_pos rfl]at h
      by_cases c2:a0_13=a1_13
      ·rw [if_pos c2]at h
       have b2:(a0_13 !=a1_13)=false:=bne_eq_false_iff_eq.mpr c2
       obtain rfl:=Option.some.inj h
       clear h c2
       go_enter Tryz.func38,Tryz.ntmps38
       go_wp2_with fail
       refine(laws_eqDec.calls _ _ _ _ _ _ _ _ G1.out).mono ?_;rintro e w2 ⟨rfl,hb⟩
       obtain⟨hc2,hf2⟩:=bcellE hb
       have HB2:=Lib.hid (z5q HB.out hb)
       have hsz2:w.heap.size+1<w2.heap.size:=by have h_:=hb.size;simp at h_;omega
       have hsy2:w.heap.size<w2.heap.size:=by omega
       clear hb
       go_wp2_with fail
       refine(laws_eqRef.calls _ _ _ _ _ _ _ _ _ _ G2.out).mono ?_;rintro e w3 ⟨rfl,hb⟩
       obtain⟨hc3,hf3⟩:=bcellE hb
       have HB3:=Lib.hid (z5q HB2.out hb)
       have hsz3:w.heap.size+1<w3.heap.size:=by have h_:=hb.size;omega
       have hsy3:w.heap.size<w3.heap.size:=by omega
       clear hb
       go_wp2_with fail
       refine(laws_eqRef.calls _ _ _ _ _ _ _ _ _ _ G3.out).mono ?_;rintro e w4 ⟨rfl,hb⟩
       obtain⟨hc4,hf4⟩:=bcellE hb
       have HB4:=Lib.hid (z5q HB3.out hb)
       have hsz4:w.heap.size+1<w4.heap.size:=by have h_:=hb.size;omega
       have hsy4:w.heap.size<w4.heap.size:=by omega
       clear hb
       go_wp2_with fail
       go_ret
       exact⟨rfl,HB4.out⟩
      ·rw [if_neg c2]at h
       have b2:(a0_13 !=a1_13)=true:=bne_iff_ne.mpr c2
       obtain rfl:=Option.some.inj h
       clear h c2
       go_enter Tryz.func38,Tryz.ntmps38
       go_wp2_with fail
       refine(laws_eqDec.calls _ _ _ _ _ _ _ _ G1.out).mono ?_;rintro e w2 ⟨rfl,hb⟩
       obtain⟨hc2,hf2⟩:=bcellE hb
       have HB2:=Lib.hid (z5q HB.out hb)
       have hsz2:w.heap.size+1<w2.heap.size:=by have h_:=hb.size;simp at h_;omega
       have hsy2:w.heap.size<w2.heap.size:=by omega
       clear hb
       go_wp2_with fail
       refine(laws_eqRef.calls _ _ _ _ _ _ _ _ _ _ G2.out).mono ?_;rintro e w3 ⟨rfl,hb⟩
       obtain⟨hc3,hf3⟩:=bcellE hb
       have HB3:=Lib.hid (z5q HB2.out hb)
       have hsz3:w.heap.size+1<w3.heap.size:=by have h_:=hb.size;omega
       have hsy3:w.heap.size<w3.heap.size:=by omega
       clear hb
       go_wp2_with fail
       refine(laws_eqRef.calls _ _ _ _ _ _ _ _ _ _ G3.out).mono ?_;rintro e w4 ⟨rfl,hb⟩
       obtain⟨hc4,hf4⟩:=bcellE hb
       have HB4:=Lib.hid (z5q HB3.out hb)
       have hsz4:w.heap.size+1<w4.heap.size:=by have h_:=hb.size;omega
       have hsy4:w.heap.size<w4.heap.size:=by omega
       clear hb
       go_wp2_with fail
       go_ret
       exact⟨rfl,HB4.out⟩
  ·rw [if_neg c1]at h
   have b1:(a0_1.toList !=a1_1.toList)=true:=bne_iff_ne.mpr c1;have b1e:(a0_1.toList==a1_1.toList)=false:=beq_eq_false_iff_ne.mpr c1
   obtain rfl:=Option.some.inj h
   clear h c1
   go_enter Tryz.func38,Tryz.ntmps38
   go_wp2_with fail
   go_ret
   exact⟨rfl,HB.out⟩
 ·rw [if_neg c0]at h
  have b0:(a0_0 !=a1_0)=true:=bne_iff_ne.mpr c0
  obtain rfl:=Option.some.inj h
  clear h c0
  go_enter Tryz.func38,Tryz.ntmps38
  go_wp2_with fail
  go_ret
  exact⟨rfl,HB.out⟩

/-! ### laws_eqNodeS: function 13 -/

def laws_eqNodeS.l0:Nat→List (S67)→List (S67)→Int→Option (Bool)
 |0,_,_,_=>none
 |k+1,x0,x1,x5=>if x5<(x0.length:Int)then(if 0≤x5 then(if x5<(x1.length:Int)then((laws_eqNode.f ((rd_T67 x0 x5).f0) ((rd_T67 x0 x5).f1) ((rd_T67 x0 x5).f2.f0) ((rd_T67 x0 x5).f2.f1) ((rd_T67 x0 x5).f2.f2) ((rd_T67 x0 x5).f3.f0) ((rd_T67 x0 x5).f3.f1) ((rd_T67 x0 x5).f3.f2) ((rd_T67 x0 x5).f3.f3) ((rd_T67 x0 x5).f4.f0) ((rd_T67 x0 x5).f4.f1) ((rd_T67 x0 x5).f4.f2) ((rd_T67 x0 x5).f4.f3) ((rd_T67 x0 x5).f5) ((rd_T67 x1 x5).f0) ((rd_T67 x1 x5).f1) ((rd_T67 x1 x5).f2.f0) ((rd_T67 x1 x5).f2.f1) ((rd_T67 x1 x5).f2.f2) ((rd_T67 x1 x5).f3.f0) ((rd_T67 x1 x5).f3.f1) ((rd_T67 x1 x5).f3.f2) ((rd_T67 x1 x5).f3.f3) ((rd_T67 x1 x5).f4.f0) ((rd_T67 x1 x5).f4.f1) ((rd_T67 x1 x5).f4.f2) ((rd_T67 x1 x5).f4.f3) ((rd_T67 x1 x5).f5)).bind fun t154=>(if t154=true then(laws_eqNodeS.l0 k x0 x1 (wrap64 (x5+1)))else(some false)))else(none))else(none))else(some true)

def laws_eqNodeS.f (k:Nat) (l0:List (S67)) (l1:List (S67)):Option (Bool):=if(l0.length:Int)=(l1.length:Int)then(laws_eqNodeS.l0 k l0 l1 0)else(some false)

def laws_eqNodeS.T6:Bool×List (List Nat×List Nat):=(true, [([], []),([], []),([0,1], [0,1]),([2], [2]),([], []),([], []),([4,5], [4,5]),([6], [6]),([3,7], [3,7]),([8], [8])])

def laws_eqNodeS.B6:List Nat:= [0,0,3,7,0,0,48,112,255,511]

theorem laws_eqNodeS.tab6:rtab .any (opsOf Tryz.f13 6)=laws_eqNodeS.T6:=by kernel_rfl

theorem laws_eqNodeS.bits6:waitsOk laws_eqNodeS.T6.2 laws_eqNodeS.B6=true:=by kernel_rfl

end Go.Proofs.YtegdpgpbdcediaaGreatDoor.PFnExactUsedNames
