/- Functions of the program as Lean functions, and proofs that the Go code comes to their answers: for the law FnExactUsedNames; made out of the print by a program of mine (compact.py). No conditions but each theorem's own. -/
import Derived.Test.YtegdpgpbdcediaaGreatDoorMFnExactUsedNamesa0
import Derived.Test.YtegdpgpbdcediaaGreatDoorMFnExactUsedNamesa2
import Derived.Test.YtegdpgpbdcediaaGreatDoorMFnExactUsedNamesa7
import Derived.Test.YtegdpgpbdcediaaGreatDoorMFnExactUsedNamesa8
namespace Go.Proofs.YtegdpgpbdcediaaGreatDoor.PFnExactUsedNames
open List (map_toArray map_cons map_nil length_drop length_take set_cons_zero set_cons_succ setIfInBounds_toArray)
open Go.RowKit Go.Proofs.YtegdpgpbdcediaaGreatDoorW.PrintWords Go.Proofs.YtegdpgpbdcediaaGreatDoorW.PrintLast Go.Proofs.YtegdpgpbdcediaaGreatDoorW.PrintMore
attribute [local go_sem] max2_int min2_int max_two min_two max_three min_three max_four min_four   -- for this text's walks alone
set_option linter.unusedVariables false
set_option linter.unusedSimpArgs false

attribute [local go_sem high] eqA47 eqA65
def spec_l4Read.T4:Bool×List (List Nat×List Nat):=(true, [([], []),([], []),([], []),([2], [2]),([1,3], [1,3]),([4], [4]),([5], [5]),([6,5,5], [5,6]),([5,7], [5,7]),([0,7,0], [0]),([8,9,0,1,2,3,4,5,6,7,8,9], [8])])

def spec_l4Read.B4:List Nat:= [0,0,0,4,14,30,62,126,254,255,1023]

theorem ldRow {P:Program} {o:Oper} {a:Act} (ty:TypeId) (x:Operand) (ho:o.op= .load ty x) (g:Nat) (t:TypeId) (cs:Array Value) (d:TypeDesc) (hx:a.eval x= .pointer (some ⟨g,0,none⟩)) (hu:P.underlying ty=some d) (hd:(match d with| .struct _| .array _ _=>true|_=>false)=true) (hi:(P.info? ty).map (·.size)=some cs.size) (w:World) (h:w.heap[g]? =some (.cells cs t (0,0))):(execOp a.eval o).run P w= .ok (.value (.agg cs)) w:=by
 unfold execOp
 simp only [ho,hx,Instr.loadAt,Instr.sureAddr,Sem.run_bind,Sem.run_pure,Result.andThen_ok,run_loadVar_row w g t ty cs (0,0) d h hu hd hi]
theorem tkL {P:Program} {md:Region.Mode} {ops:Array Oper} {Q:Exit→Act→World→Prop} {S:World→Prop} (i:Nat) {oi:Oper} {v:Value} {R:World→Prop} {fuel:Nat} {l l':Array Bool} {a a':Act} {w:World} (hy:∀ w,R w→(execOp a.eval oi).run P w= .ok (.value v) w) (hSR:∀ w,S w→R w) (h:wpAnyH P md ops Q S fuel l' a' w) (hi:ops[i]? =some oi:=by simp only [List.getElem?_toArray,List.getElem?_cons_succ,List.getElem?_cons_zero];first|done|rfl) (hc:(Region.noSelect ops && (Region.free md ops l i && (Region.ready md ops l).contains i))=true:=by kernel_rfl) (hw:Region.wanted oi (yielded ops a.tmps)=true:=by rfl) (hQ:∀ c a w,Q (.panic c) (a.put oi.dst v) w→Q (.panic c) a w:=by exact fun _ _ _ h=>h) (hS:S w:=by assumption) (ha:a.put oi.dst v=a':=by simp only [Act.put,setIfInBounds_toArray,set_cons_zero,set_cons_succ];first|done|rfl) (hl:l.setIfInBounds i true=l':=by simp only [setIfInBounds_toArray,set_cons_zero,set_cons_succ];first|done|rfl):wpAnyH P md ops Q S (fuel+1) l a w:=tkV i h hi hc hw (fun w hs=>hy w (hSR w hs)) hQ hS ha hl
set_option maxHeartbeats 8000000 in
set_option maxRecDepth 100000 in
theorem spec_l4Read.calls (k:Nat) (A0:Option Addr) (c0:Nat) (l0:List (S67)) (r1:Int) (r2:ByteArray) (r3:Bool) (r4:Int) (r5:Int) (r6:Int) (r7:Int) (r8:Bool) (r9:Bool) (r10:Int) (r11:Int) (r12:Bool) (r13:Bool) (r14:Int) (r15:List (S70)) (r16:Bool) (w:World) (hr0:Kd.C k67 w A0 l0.length l0) (hc0:l0.length≤c0) (h:spec_l4Read.f k l0=some (r1,r2,r3,r4,r5,r6,r7,r8,r9,r10,r11,r12,r13,r14,r15,r16)):
  Calls Tryz.prog 35 #[.slice A0 l0.length c0] w fun e w'=>∃ v14_:Value,e= .returned (.tuple #[.agg #[.int .i64 r1,.string r2,.bool r3,.int .i64 r4,.int .i64 r5,.int .i64 r6,.int .i64 r7,.bool r8,.bool r9,.int .i64 r10,.int .i64 r11,.bool r12,.bool r13,.int .i64 r14,v14_],.bool r16])∧Kd.R k70 70 w' w.heap.size (fun _=>True) v14_ r15∧Below w.heap.size w w':=by
 have HR:=Lib.hid hr0;have HC:=Lib.hid hc0;clear hr0 hc0
 have H:=h;clear h;unfold spec_l4Read.f at H
 have hB:=z2q (Below.refl w.heap.size w) (.cells #[.int .i64 0,.string (⟨#[]⟩:ByteArray),.bool false,.int .i64 0,.int .i64 0,.int .i64 0,.int .i64 0,.bool false,.bool false,.int .i64 0,.int .i64 0,.bool false,.bool false,.int .i64 0,.slice none 0 0] 70)
 have HB:=Lib.hid hB;clear hB
 obtain⟨bx,hbx,H⟩:∃ bx:Bool,((l0.length:Int)==0 || decide ((l0.length:Int) > 300))=bx∧spec_l4Read.j0 k l0 bx=some (r1,r2,r3,r4,r5,r6,r7,r8,r9,r10,r11,r12,r13,r14,r15,r16):=by
  by_cases c:(l0.length:Int)=0
  ·rw [if_pos c]at H;exact⟨true,by rw [beq_iff_eq.mpr c];rfl,H⟩
  ·rw [if_neg c]at H;exact⟨_,by rw [beq_eq_false_iff_ne.mpr c];exact Bool.false_or _,H⟩
 cases k with
 |zero=>exact absurd H (by simp [spec_l4Read.j0])
 |succ k=>
 simp only [spec_l4Read.j0]at H
 cases bx with
 |true=>
  rw [if_pos rfl]at H
  simp only [Option.some.injEq,Prod.mk.injEq]at H
  obtain⟨rfl,rfl,rfl,rfl,rfl,rfl,rfl,rfl,rfl,rfl,rfl,rfl,rfl,rfl,rfl,rfl⟩:=H
  by_cases c1:((l0.length:Int)==0)=true
  all_goals (try replace c1:=Bool.eq_false_iff.mpr c1)
  all_goals (rw [c1]at hbx)
  all_goals (try(have c2:decide (300<(l0.length:Int))=true:=hbx;have c3:decide (300<l0.length)=true:=decide_eq_true (by have:=of_decide_eq_true c2;omega);have c4:¬ (l0= []):=fun h_=>by rw [h_]at c1;exact Bool.noConfusion c1))
  all_goals clear hbx
  all_goals (try(have c5:l0= []:=List.length_eq_zero_iff.mp (by have:=beq_iff_eq.mp c1;omega)))
  all_goals (go_enter Tryz.func35,Tryz.ntmps35)
  all_goals go_wp2_with fail
  all_goals (refine bodyPost_ret (results_ct rfl _ _ w.heap.size 70 #[.int .i64 0,.string (⟨#[]⟩:ByteArray),.bool false,.int .i64 0,.int .i64 0,.int .i64 0,.int .i64 0,.bool false,.bool false,.int .i64 0,.int .i64 0,.bool false,.bool false,.int .i64 0,.slice none 0 0] (0,0) _ rfl (heap_alloc_new w _) Tryz.underlying70 rfl (by kernel_rfl)) rfl ?_)
  all_goals exact⟨_,rfl,Kd.R_nil _ _ _ _ _,HB.out⟩
 |false=>
  rw [if_neg Bool.false_ne_true]at H
  obtain⟨⟨t1,t2,t3,t4,t5,t6,t7,t8,t9,t10,t11,t12,t13,t14,t15,t16⟩,hT,H⟩:=Option.bind_eq_some_iff.mp H
  simp only at H
  have HT:=Lib.hid hT;clear hT
  have c2:((l0.length:Int)==0)=false:=(Bool.or_eq_false_iff.mp hbx).1
  have c3:decide (300<(l0.length:Int))=false:=(Bool.or_eq_false_iff.mp hbx).2
  have c4:¬ (l0= []):=fun h_=>by rw [h_]at c2;exact Bool.noConfusion c2
  have c5:decide (300<l0.length)=false:=decide_eq_false (by have:=of_decide_eq_false c3;omega)
  clear hbx
  go_enter Tryz.func35,Tryz.ntmps35
  go_wp2_with fail
  refine(spec_l4Take.calls k _ _ l0 0 0 t1 t2 t3 t4 t5 t6 t7 t8 t9 t10 t11 t12 t13 t14 t15 t16 _ (Kd.C_below HR.out HB.out) HC.out HT.out).mono ?_;rintro e w2 ⟨v14,rfl,ho,hb⟩
  obtain⟨A14,c14,rfl⟩:=Kd.R_slice ho
  have HB2:=Lib.hid (z5q HB.out hb)
  have HG:=Lib.hid ((hb.block w.heap.size (by simp)).trans (heap_alloc_new w _))
  have HZ:=Lib.hid (show w.heap.size<w2.heap.size by have h_:=hb.size;simp at h_;omega)
  have HO:=Lib.hid (show Kd.R k70 70 w2 w.heap.size (fun k=>k≠w.heap.size) (.slice A14 t15.length c14) t15 from Kd.R_mono (Kd.R_lower (Kd.R_bound ho) (by simp)) (fun k hk=>by have h_:=hk.2.1;simp at h_;omega))
  clear ho hb
  go_wp2_with fail
  have HW:Hid (w2.heap.size≠w.heap.size):=Lib.hid (by have:=HZ.out;omega)
  replace HG:=Lib.hid (((z4q (z2q (Below.refl w2.heap.size w2) (.cells #[.int .i64 t1,.string t2,.bool t3,.int .i64 t4,.int .i64 t5,.int .i64 t6,.int .i64 t7,.bool t8,.bool t9,.int .i64 t10,.int .i64 t11,.bool t12,.bool t13,.int .i64 t14,.slice A14 t15.length c14] 70))).block w.heap.size HZ.out).trans HG.out)
  refine wp_region_held_drew (S:=(fun w'=>w'.heap[w2.heap.size]? =some (.cells #[.int .i64 t1,.string t2,.bool t3,.int .i64 t4,.int .i64 t5,.int .i64 t6,.int .i64 t7,.bool t8,.bool t9,.int .i64 t10,.int .i64 t11,.bool t12,.bool t13,.int .i64 t14,.slice A14 t15.length c14] 70 (0,0))∧Below w.heap.size w w'∧Kd.R k70 70 w' w.heap.size (fun k=>k≠w.heap.size) (.slice A14 t15.length c14) t15)) (by kernel_rfl) ⟨heap_alloc_new w2 _,z4q (z2q HB2.out _),Kd.R_drew (Kd.R_alloc HO.out _)⟩ (fun hHeld=> ?_)
  simp only [List.size_toArray,List.length_cons,List.length_nil,Nat.reduceAdd,Array.replicate_succ,Array.replicate_zero,List.push_toArray,List.append_toArray,List.nil_append,List.cons_append]
  refine tkL 0 (ldRow 70 (.tmp 4) rfl w2.heap.size 70 #[.int .i64 t1,.string t2,.bool t3,.int .i64 t4,.int .i64 t5,.int .i64 t6,.int .i64 t7,.bool t8,.bool t9,.int .i64 t10,.int .i64 t11,.bool t12,.bool t13,.int .i64 t14,.slice A14 t15.length c14] _ rfl Tryz.underlying70 rfl (by kernel_rfl)) (fun _ h=>h.1) ?_
  refine tkV 1 ?_;refine tkV 2 ?_;refine tkV 3 ?_
  by_cases c6:(t16==(l0.length:Int))=true
  ·rw [if_pos (beq_iff_eq.mp c6)]at H
   obtain⟨tg,hgd,H⟩:=Option.bind_eq_some_iff.mp H
   have HD:=Lib.hid hgd;clear hgd
   simp only [Option.some.injEq,Prod.mk.injEq]at H
   obtain⟨rfl,rfl,rfl,rfl,rfl,rfl,rfl,rfl,rfl,rfl,rfl,rfl,rfl,rfl,rfl,rfl⟩:=H
   refine tkV 4 ?_;refine tkV 5 ?_
   refine tkL 6 (ldRow 70 (.tmp 4) rfl w2.heap.size 70 #[.int .i64 t1,.string t2,.bool t3,.int .i64 t4,.int .i64 t5,.int .i64 t6,.int .i64 t7,.bool t8,.bool t9,.int .i64 t10,.int .i64 t11,.bool t12,.bool t13,.int .i64 t14,.slice A14 t15.length c14] _ rfl Tryz.underlying70 rfl (by kernel_rfl)) (fun _ h=>h.1) ?_
   refine wpAnyH_ready (rs:= [7]) (by kernel_rfl) (by simp) ?_
   refine AllReadyH.cons rfl (fun K hK=> ?_) AllReadyH.nil
   have hrd:=Kd.R_reads' hHeld.2.2
   go_simp
   go_at_call 71;refine(spec_l4Good.calls k t1 t2 t3 t4 t5 t6 t7 t8 t9 t10 t11 t12 t13 t14 _ _ t15 _ _ hrd.2.2 hrd.2.1 HD.out).mono ?_;rintro e w4 ⟨rfl,hb⟩
   try go_wp2_with fail
   refine hK.out _ _ ⟨(hb.block _ (by simp)).trans hHeld.1,z5q hHeld.2.1 hb,Kd.R_below hHeld.2.2 hb⟩ (fun hHeld=> ?_)
   replace HG:=Lib.hid ((hb.block w.heap.size (by simp;have:=HZ.out;omega)).trans HG.out)
   clear hK K hrd hb
   try simp only [Act.put,setIfInBounds_toArray,set_cons_zero,set_cons_succ]
   refine tkV 8 ?_
   refine wpAnyH_ready (rs:= [9]) (by kernel_rfl) (by simp) ?_
   refine AllReadyH.cons rfl (fun K hK=> ?_) AllReadyH.nil
   rw [if_pos (by rfl)]
   refine wp_store_row 70 (.tmp 2) (.tmp 20) rfl w.heap.size #[.int .i64 t1,.string t2,.bool t3,.int .i64 t4,.int .i64 t5,.int .i64 t6,.int .i64 t7,.bool t8,.bool t9,.int .i64 t10,.int .i64 t11,.bool t12,.bool t13,.int .i64 t14,.slice A14 t15.length c14] rfl rfl 70 #[.int .i64 0,.string (⟨#[]⟩:ByteArray),.bool false,.int .i64 0,.int .i64 0,.int .i64 0,.int .i64 0,.bool false,.bool false,.int .i64 0,.int .i64 0,.bool false,.bool false,.int .i64 0,.slice none 0 0] HG.out (by kernel_rfl) rfl (by simp [Value.oneCell']) ?_
   refine hK.out _ _ ⟨(setRow_other _ _ _ _ HW.out).trans hHeld.1,setRow_below hHeld.2.1 (Nat.le_refl _) _,setRow_R hHeld.2.2 _ _ (fun _ h=>h)⟩ (fun hHeld=> ?_)
   clear hK K
   try simp only [Act.put,setIfInBounds_toArray,set_cons_zero,set_cons_succ]
   refine tkV 10 ?_
   refine wpAnyH_done (by kernel_rfl) ?_ _
   go_wp2_with fail
   refine bodyPost_ret (results_ct rfl _ _ w.heap.size 70 #[.int .i64 t1,.string t2,.bool t3,.int .i64 t4,.int .i64 t5,.int .i64 t6,.int .i64 t7,.bool t8,.bool t9,.int .i64 t10,.int .i64 t11,.bool t12,.bool t13,.int .i64 t14,.slice A14 t15.length c14] (0,0) _ rfl (setRow_heap _ _ _ _ _ _ HG.out) Tryz.underlying70 rfl (by kernel_rfl)) rfl ?_
   exact⟨_,rfl,Kd.R_mono hHeld.2.2 (fun _ _=>trivial),hHeld.2.1⟩
  ·replace c6:=Bool.eq_false_iff.mpr c6
   rw [if_neg (fun h_=>by rw [beq_iff_eq.mpr h_]at c6;cases c6)]at H
   simp only [Option.some.injEq,Prod.mk.injEq]at H
   obtain⟨rfl,rfl,rfl,rfl,rfl,rfl,rfl,rfl,rfl,rfl,rfl,rfl,rfl,rfl,rfl,rfl⟩:=H
   refine tkV 4 ?_;refine tkV 5 ?_;refine tkS 6 ?_;refine tkS 7 ?_;refine tkV 8 ?_
   refine wpAnyH_ready (rs:= [9]) (by kernel_rfl) (by simp) ?_
   refine AllReadyH.cons rfl (fun K hK=> ?_) AllReadyH.nil
   rw [if_pos (by rfl)]
   refine wp_store_row 70 (.tmp 2) (.tmp 20) rfl w.heap.size #[.int .i64 t1,.string t2,.bool t3,.int .i64 t4,.int .i64 t5,.int .i64 t6,.int .i64 t7,.bool t8,.bool t9,.int .i64 t10,.int .i64 t11,.bool t12,.bool t13,.int .i64 t14,.slice A14 t15.length c14] rfl rfl 70 #[.int .i64 0,.string (⟨#[]⟩:ByteArray),.bool false,.int .i64 0,.int .i64 0,.int .i64 0,.int .i64 0,.bool false,.bool false,.int .i64 0,.int .i64 0,.bool false,.bool false,.int .i64 0,.slice none 0 0] HG.out (by kernel_rfl) rfl (by simp [Value.oneCell']) ?_
   refine hK.out _ _ ⟨(setRow_other _ _ _ _ HW.out).trans hHeld.1,setRow_below hHeld.2.1 (Nat.le_refl _) _,setRow_R hHeld.2.2 _ _ (fun _ h=>h)⟩ (fun hHeld=> ?_)
   clear hK K
   try simp only [Act.put,setIfInBounds_toArray,set_cons_zero,set_cons_succ]
   refine tkV 10 ?_
   refine wpAnyH_done (by kernel_rfl) ?_ _
   go_wp2_with fail
   refine bodyPost_ret (results_ct rfl _ _ w.heap.size 70 #[.int .i64 t1,.string t2,.bool t3,.int .i64 t4,.int .i64 t5,.int .i64 t6,.int .i64 t7,.bool t8,.bool t9,.int .i64 t10,.int .i64 t11,.bool t12,.bool t13,.int .i64 t14,.slice A14 t15.length c14] (0,0) _ rfl (setRow_heap _ _ _ _ _ _ HG.out) Tryz.underlying70 rfl (by kernel_rfl)) rfl ?_
   exact⟨_,rfl,Kd.R_mono hHeld.2.2 (fun _ _=>trivial),hHeld.2.1⟩

/-! ### spec_GoodFormula: function 10 -/

def spec_GoodFormula.f (k:Nat) (l0:List (S67)):Option (Bool):=(spec_l4Read.f k l0).bind fun bt362=>(some bt362.2.2.2.2.2.2.2.2.2.2.2.2.2.2.2)

set_option maxHeartbeats 8000000 in
set_option maxRecDepth 100000 in
theorem spec_GoodFormula.calls (k:Nat) (A0:Option Addr) (c0:Nat) (l0:List (S67)) (r:Bool) (w:World) (hr0:Kd.C k67 w A0 l0.length l0) (hc0:l0.length≤c0) (h:spec_GoodFormula.f k l0=some r):
  Calls Tryz.prog 10 #[.slice A0 l0.length c0] w fun e w'=>e= .returned (.bool r)∧Below w.heap.size w w':=by
 have hu70:=Tryz.underlying70
 have HR0:=Aside0.mk hr0
 have HC0:=Aside0.mk hc0
 clear hr0 hc0
 have HB:=Aside0.mk (Below.refl w.heap.size w)
 have H:((spec_l4Read.f k l0).bind fun bt362=>(some bt362.2.2.2.2.2.2.2.2.2.2.2.2.2.2.2))=some r:=h
 clear h
 replace H:=Option.bind_eq_some_iff.mp H
 obtain⟨⟨t362,t363,t364,t365,t366,t367,t368,t369,t370,t371,t372,t373,t374,t375,t376,t379⟩,A20,H⟩:=H
 replace H:(some t379)=some r:=H
 have A2:=Aside0.mk A20
 clear A20
 obtain rfl:=Option.some.inj H
 go_enter Tryz.func10,Tryz.ntmps10
 go_wp2_with (first|((with_reducible refine z8q (f:=35) rfl ?_);refine z17q (some 7) rfl rfl Tryz.func35 (by kernel_rfl) rfl #[.slice A0 l0.length c0] rfl (by(try simp only [map_toArray,map_cons,map_nil]);first|done|rfl|(simp only [length_drop,length_take];rfl)) ?_;(with_reducible refine(spec_l4Read.calls k _ _ l0 t362 t363 t364 t365 t366 t367 t368 t369 t370 t371 t372 t373 t374 t375 t376 t379 _ ?side1 ?side2 A2.out).mono ?_);(case side1=>repeat(first|exact HR0.out|(with_reducible refine Kd.C_alloc ?_ _)|(with_reducible refine Kd.C_drewN ?_ _)|(with_reducible refine Kd.C_drew ?_)));(case side2=>exact HC0.out);rintro e w3 ⟨v377,rfl,ho0,hb⟩;refine⟨_,rfl,?_⟩;have n0_:=Aside0.mk (Kd.R_lower ho0 (z6q (ibh HB.out)));have n1_:=Aside0.mk (z5q (ibh HB.out) hb);clear HB;have HO378:=n0_;have HB:=n1_;clear n0_ n1_;(try clear hb);(try clear hb2);(try clear hk);(try clear hi);(try clear ho0))|((with_reducible refine z15q (N:=3) rfl ?_);refine z13q ?hg (N:=3) ?hd (cs:=#[.int .i64 0,.string (⟨#[]⟩:ByteArray),.bool false,.int .i64 0,.int .i64 0,.int .i64 0,.int .i64 0,.bool false,.bool false,.int .i64 0,.int .i64 0,.bool false,.bool false,.int .i64 0,.slice none 0 0]) (t:=70) ?hr ?_;(case hd=>rfl);(case hg=>rfl);(case hr=>first|(go_simp;done)|(go_simp;rfl));intro gb380 hg w4 hbox hb;have n0_:=Aside0.mk (Kd.R_below (Kd.R_elderB (ro HO378.out) gb380 (Nat.le_of_eq hg.symm)) hb);have n1_:=Aside0.mk (z5q (ibh HB.out) hb);have n2_:=Aside0.mk (hbox);have n3_:=Aside0.mk ((by rw [hg];exact(z6q (ibh HB.out)):w.heap.size≤gb380));have n4_:=Aside0.mk ((by rw [hg];exact(z6q (ibh HB.out)):w.heap.size≤gb380));clear HO378;clear HB;have HO378:=n0_;have HB:=n1_;have BK380:=n2_;have GW380:=n3_;have GE380:=n4_;clear n0_ n1_ n2_ n3_ n4_;clear hb hbox hg;obtain⟨hcz5_0,hcz5_1,hcz5_2,hcz5_3,hcz5_4,hcz5_5,hcz5_6,hcz5_7,hcz5_8,hcz5_9,hcz5_10,hcz5_11,hcz5_12,hcz5_13,hcz5_14,hfz5_0,hfz5_1,hfz5_2,hfz5_3,hfz5_4,hfz5_5,hfz5_6,hfz5_7,hfz5_8,hfz5_9,hfz5_10,hfz5_11,hfz5_12,hfz5_13,hfz5_14⟩:=cr15 (w:=w4) (g:=gb380) BK380.out;obtain⟨Ao6,co6,eo6⟩:=Kd.R_slice HO378.out;subst eo6))
 go_ret
 exact⟨by first|rfl|(simp [errW_none,errW_some]<;>rfl)|(simp [*,errW_none,errW_some]<;>rfl),by repeat(first|(with_reducible first|exact HB.out|apply z2q|apply z3q|apply z4q|refine z7q ?_ GE380.out)|exact HB.out)⟩



/-! ### spec_UsedNames: function 14 -/

def spec_UsedNames.l0:Nat→List ByteArray→List (S67)→Int→Int→Option (List ByteArray)
 |0,_,_,_,_=>none
 |k+1,x3,x9,x10,x11=>if x11<x10 then(if 0≤x11 then(if x11<(x9.length:Int)then(if((rd_T67 x9 x11).f0)=7 then((spec_l4Upper.f ((rd_T67 x9 x11).f1)).bind fun t384=>((spec_l4In.f k x3 t384).bind fun t385=>(if t385=true then(spec_UsedNames.l0 k x3 x9 x10 (wrap64 (x11+1)))else((spec_l4Upper.f ((rd_T67 x9 x11).f1)).bind fun t386=>(if x3.length<8796093022208 then(spec_UsedNames.l0 k (x3 ++ [t386]) x9 x10 (wrap64 (x11+1)))else(none))))))else(spec_UsedNames.l0 k x3 x9 x10 (wrap64 (x11+1))))else(none))else(none))else(some x3)

def spec_UsedNames.f (k:Nat) (l0:List (S67)):Option (List ByteArray):=(spec_GoodFormula.f k l0).bind fun t381=>(if t381=true then(spec_UsedNames.l0 k ([]:List ByteArray) l0 (l0.length:Int) 0)else(some ([]:List ByteArray)))

set_option maxHeartbeats 8000000 in
set_option maxRecDepth 100000 in
theorem spec_UsedNames.calls_p1 (k:Nat) (A0:Option Addr) (c0:Nat) (l0:List (S67)) (r:List ByteArray) (w:World) (hr0:Kd.C k67 w A0 l0.length l0) (hc0:l0.length≤c0) (t381:_) (A2:Aside0 ((spec_GoodFormula.f k l0)=some t381)) (c3:t381=true) (H:(if t381=true then(spec_UsedNames.l0 k ([]:List ByteArray) l0 (l0.length:Int) 0)else(some ([]:List ByteArray)))=some r):
  Calls Tryz.prog 14 #[.slice A0 l0.length c0] w fun e w'=>∃ v0_:Value,e= .returned (v0_)∧Kd.R Kd.string 9 w' w.heap.size (fun _=>True) v0_ r∧Below w.heap.size w w':=by
 have hu67:=Tryz.underlying67
 have HR0:=Aside0.mk hr0
 have HC0:=Aside0.mk hc0
 clear hr0 hc0
 have HB:=Aside0.mk (Below.refl w.heap.size w)
 subst c3
 have H1:(spec_UsedNames.l0 k ([]:List ByteArray) l0 (l0.length:Int) 0)=some r:=by rw [if_pos rfl]at H;exact H
 clear H
 have H:=H1
 clear H1
 have H':=Aside0.mk H
 clear H
 go_enter Tryz.func14,Tryz.ntmps14
 go_wp2_with (first|((with_reducible refine z8q (f:=10) rfl ?_);refine z17q (some 7) rfl rfl Tryz.func10 (by kernel_rfl) rfl #[.slice A0 l0.length c0] rfl (by(try simp only [map_toArray,map_cons,map_nil]);first|done|rfl|(simp only [length_drop,length_take];rfl)) ?_;(with_reducible refine(spec_GoodFormula.calls k _ _ l0 true _ ?side1 ?side2 A2.out).mono ?_);(case side1=>repeat(first|exact HR0.out|(with_reducible refine Kd.C_alloc ?_ _)|(with_reducible refine Kd.C_drewN ?_ _)|(with_reducible refine Kd.C_drew ?_)));(case side2=>exact HC0.out);rintro e w4 ⟨rfl,hb⟩;refine⟨_,rfl,?_⟩;have n0_:=Aside0.mk (z5q (ibh HB.out) hb);clear HB;have HB:=n0_;clear n0_;(try clear hb);(try clear hb2);(try clear hk);(try clear hi)))
 go_loopg [3,11] k (fun kq v3 v11 w'=>∃ (x3_1:List ByteArray) (x11_1:Int),v11= .int .i64 x11_1∧Aside0 (spec_UsedNames.l0 kq x3_1 l0 (l0.length:Int) x11_1=some r)∧Aside0 (kq≤k)∧Aside0 (Kd.R Kd.string 9 w' w.heap.size (fun _=>True) v3 x3_1)∧Aside0 (Below w.heap.size w w'))
 case atStart=>exact⟨(([]:List ByteArray)),(0),(by first|rfl|(simp;done)|(simp [*];done)|(simp;unfold wrap64;omega)),H',⟨Nat.le_refl _⟩,⟨by first|exact Kd.R_nil _ _ _ _ _|exact Kd.N_nil _ _ _ _ _|exact Kd.V_nil _ _ _ _ _|exact Kd.Q_nil _ _ _ _ _|exact Kd.S_nil _ _ _ _ _⟩,⟨by repeat(first|(with_reducible first|exact HB.out|apply z2q|apply z3q|apply z4q)|exact HB.out)⟩⟩
 case round=>
  clear H'
  try clear c1
  try clear p2
  try clear c3
  obtain⟨x3_1,x11_1,rfl,HA,HK1,HO_3,HB⟩:=hrel
  cases gk with
  |zero=>exact absurd HA.out (by simp [spec_UsedNames.l0])
  |succ k1=>
   have H:=HA.out
   clear HA
   simp only [spec_UsedNames.l0]at H
   by_cases c5:x11_1<(l0.length:Int)
   ·rw [if_pos c5]at H
    have c5b0:decide (x11_1<(l0.length:Int))=true:=decide_eq_true c5
    clear c5
    by_cases c6:0≤x11_1
    ·rw [if_pos c6]at H
     have c6b0:decide (0≤x11_1)=true:=decide_eq_true c6
     clear c6
     by_cases c7:x11_1<(l0.length:Int)
     ·rw [if_pos c7]at H
      have c7b0:decide (x11_1<(l0.length:Int))=true:=decide_eq_true c7
      clear c7
      by_cases c8:((rd_T67 l0 x11_1).f0)=7
      ·rw [if_pos c8]at H
       have c8b0:(((rd_T67 l0 x11_1).f0)==7)=true:=beq_iff_eq.mpr c8
       have c8b1:(((rd_T67 l0 x11_1).f0) !=7)=false:=bne_eq_false_iff_eq.mpr c8
       clear c8
       replace H:=Option.bind_eq_some_iff.mp H
       obtain⟨t384,A90,H⟩:=H
       replace H:((spec_l4In.f k1 x3_1 t384).bind fun t385=>(if t385=true then(spec_UsedNames.l0 k1 x3_1 l0 (l0.length:Int) (wrap64 (x11_1+1)))else((spec_l4Upper.f ((rd_T67 l0 x11_1).f1)).bind fun t386=>(if x3_1.length<8796093022208 then(spec_UsedNames.l0 k1 (x3_1 ++ [t386]) l0 (l0.length:Int) (wrap64 (x11_1+1)))else(none)))))=some r:=H
       have A9:=Aside0.mk A90
       clear A90
       replace H:=Option.bind_eq_some_iff.mp H
       obtain⟨t385,A100,H⟩:=H
       replace H:(if t385=true then(spec_UsedNames.l0 k1 x3_1 l0 (l0.length:Int) (wrap64 (x11_1+1)))else((spec_l4Upper.f ((rd_T67 l0 x11_1).f1)).bind fun t386=>(if x3_1.length<8796093022208 then(spec_UsedNames.l0 k1 (x3_1 ++ [t386]) l0 (l0.length:Int) (wrap64 (x11_1+1)))else(none))))=some r:=H
       have A10:=Aside0.mk A100
       clear A100
       by_cases c11:t385=true
       ·subst c11
        have H1:(spec_UsedNames.l0 k1 x3_1 l0 (l0.length:Int) (wrap64 (x11_1+1)))=some r:=by rw [if_pos rfl]at H;exact H
        clear H
        have H:=H1
        clear H1
        have H':=Aside0.mk H
        clear H
        have p382:0≤(x11_1:Int):=of_decide_eq_true (by first|(with_reducible assumption)|assumption)
        have q382:x11_1<(l0.length:Int):=of_decide_eq_true (by first|(with_reducible assumption)|assumption)
        obtain⟨ad382,e382,hx382_0,hx382_1,hx382_2,hx382_3,hx382_4,hx382_5,hx382_6,hx382_7,hx382_8,hx382_9,hx382_10,hx382_11,hx382_12,hx382_13⟩:=at_T67 HR0.out x11_1 p382 q382
        cases e382
        replace hx382_0:=(hbc HB.out hx382_0).trans hx382_0
        replace hx382_1:=(hbc HB.out hx382_1).trans hx382_1
        replace hx382_2:=(hbc HB.out hx382_2).trans hx382_2
        replace hx382_3:=(hbc HB.out hx382_3).trans hx382_3
        replace hx382_4:=(hbc HB.out hx382_4).trans hx382_4
        replace hx382_5:=(hbc HB.out hx382_5).trans hx382_5
        replace hx382_6:=(hbc HB.out hx382_6).trans hx382_6
        replace hx382_7:=(hbc HB.out hx382_7).trans hx382_7
        replace hx382_8:=(hbc HB.out hx382_8).trans hx382_8
        replace hx382_9:=(hbc HB.out hx382_9).trans hx382_9
        replace hx382_10:=(hbc HB.out hx382_10).trans hx382_10
        replace hx382_11:=(hbc HB.out hx382_11).trans hx382_11
        replace hx382_12:=(hbc HB.out hx382_12).trans hx382_12
        replace hx382_13:=(hbc HB.out hx382_13).trans hx382_13
        replace p382:=eq_true p382
        replace q382:=eq_true q382
        go_wp2_with (first|((with_reducible refine z15q (N:=5) rfl ?_);refine z13q ?hg (N:=5) ?hd (cs:=#[.int .i64 0,.string (⟨#[]⟩:ByteArray),.bool false,.int .i64 0,.int .i64 0,.int .i64 0,.int .i64 0,.bool false,.bool false,.int .i64 0,.int .i64 0,.bool false,.bool false,.int .i64 0]) (t:=67) ?hr ?_;(case hd=>rfl);(case hg=>rfl);(case hr=>first|(go_simp;done)|(go_simp;rfl));intro gb383 hg w12 hbox hb;have n0_:=Aside0.mk (Kd.R_below (ro HO_3.out) hb);have n1_:=Aside0.mk (z5q (ibh HB.out) hb);have n2_:=Aside0.mk (hbox);have n3_:=Aside0.mk ((by rw [hg];exact(z6q (ibh HB.out)):w.heap.size≤gb383));have n4_:=Aside0.mk ((by rw [hg];exact(z6q (ibh HB.out)):w.heap.size≤gb383));clear HO_3;clear HB;have HO_3:=n0_;have HB:=n1_;have BK383:=n2_;have GW383:=n3_;have GE383:=n4_;clear n0_ n1_ n2_ n3_ n4_;clear hb hbox hg;obtain⟨hcz13_0,hcz13_1,hcz13_2,hcz13_3,hcz13_4,hcz13_5,hcz13_6,hcz13_7,hcz13_8,hcz13_9,hcz13_10,hcz13_11,hcz13_12,hcz13_13,hfz13_0,hfz13_1,hfz13_2,hfz13_3,hfz13_4,hfz13_5,hfz13_6,hfz13_7,hfz13_8,hfz13_9,hfz13_10,hfz13_11,hfz13_12,hfz13_13⟩:=cr14 (w:=w12) (g:=gb383) BK383.out)|(go_at_call 40;(with_reducible refine(spec_l4Upper.calls ((rd_T67 l0 x11_1).f1) t384 _ A9.out).mono ?_);rintro e w14 ⟨rfl,hb⟩;have n0_:=Aside0.mk (Kd.R_below (by(with_reducible repeat(first|apply Kd.R_alloc|apply Kd.R_drewN|apply Kd.R_drew));exact(Kd.R_mono (Kd.R_far (p:=⟨gb383,13,none⟩) (Kd.R_far (p:=⟨gb383,12,none⟩) (Kd.R_far (p:=⟨gb383,11,none⟩) (Kd.R_far (p:=⟨gb383,10,none⟩) (Kd.R_far (p:=⟨gb383,9,none⟩) (Kd.R_far (p:=⟨gb383,8,none⟩) (Kd.R_far (p:=⟨gb383,7,none⟩) (Kd.R_far (p:=⟨gb383,6,none⟩) (Kd.R_far (p:=⟨gb383,5,none⟩) (Kd.R_far (p:=⟨gb383,4,none⟩) (Kd.R_far (p:=⟨gb383,3,none⟩) (Kd.R_far (p:=⟨gb383,2,none⟩) (Kd.R_far (p:=⟨gb383,1,none⟩) (Kd.R_far (p:=⟨gb383,0,none⟩) (Kd.R_types HO_3.out BK383.out (by decide)) (fun _ hk=>hk.2) (.int .i64 ((rd_T67 l0 x11_1).f0))) (fun _ hk=>hk.2) (.string ((rd_T67 l0 x11_1).f1))) (fun _ hk=>hk.2) (.bool ((rd_T67 l0 x11_1).f2.f0))) (fun _ hk=>hk.2) (.int .i64 ((rd_T67 l0 x11_1).f2.f1))) (fun _ hk=>hk.2) (.int .i64 ((rd_T67 l0 x11_1).f2.f2))) (fun _ hk=>hk.2) (.int .i64 ((rd_T67 l0 x11_1).f3.f0))) (fun _ hk=>hk.2) (.int .i64 ((rd_T67 l0 x11_1).f3.f1))) (fun _ hk=>hk.2) (.bool ((rd_T67 l0 x11_1).f3.f2))) (fun _ hk=>hk.2) (.bool ((rd_T67 l0 x11_1).f3.f3))) (fun _ hk=>hk.2) (.int .i64 ((rd_T67 l0 x11_1).f4.f0))) (fun _ hk=>hk.2) (.int .i64 ((rd_T67 l0 x11_1).f4.f1))) (fun _ hk=>hk.2) (.bool ((rd_T67 l0 x11_1).f4.f2))) (fun _ hk=>hk.2) (.bool ((rd_T67 l0 x11_1).f4.f3))) (fun _ hk=>hk.2) (.int .i64 ((rd_T67 l0 x11_1).f5))) (fun _ h_=>h_.1))) hb);have n1_:=Aside0.mk (z12q (g:=gb383) (o:= .cells #[.int .i64 ((rd_T67 l0 x11_1).f0),.string ((rd_T67 l0 x11_1).f1),.bool ((rd_T67 l0 x11_1).f2.f0),.int .i64 ((rd_T67 l0 x11_1).f2.f1),.int .i64 ((rd_T67 l0 x11_1).f2.f2),.int .i64 ((rd_T67 l0 x11_1).f3.f0),.int .i64 ((rd_T67 l0 x11_1).f3.f1),.bool ((rd_T67 l0 x11_1).f3.f2),.bool ((rd_T67 l0 x11_1).f3.f3),.int .i64 ((rd_T67 l0 x11_1).f4.f0),.int .i64 ((rd_T67 l0 x11_1).f4.f1),.bool ((rd_T67 l0 x11_1).f4.f2),.bool ((rd_T67 l0 x11_1).f4.f3),.int .i64 ((rd_T67 l0 x11_1).f5)] 67 (0,0)) (by refine cz ?_;refine z11q (cs:=#[.int .i64 ((rd_T67 l0 x11_1).f0),.string ((rd_T67 l0 x11_1).f1),.bool ((rd_T67 l0 x11_1).f2.f0),.int .i64 ((rd_T67 l0 x11_1).f2.f1),.int .i64 ((rd_T67 l0 x11_1).f2.f2),.int .i64 ((rd_T67 l0 x11_1).f3.f0),.int .i64 ((rd_T67 l0 x11_1).f3.f1),.bool ((rd_T67 l0 x11_1).f3.f2),.bool ((rd_T67 l0 x11_1).f3.f3),.int .i64 ((rd_T67 l0 x11_1).f4.f0),.int .i64 ((rd_T67 l0 x11_1).f4.f1),.bool ((rd_T67 l0 x11_1).f4.f2),.bool ((rd_T67 l0 x11_1).f4.f3),.int .i64 0]) ?_ 13 _ rfl;refine cz ?_;refine z11q (cs:=#[.int .i64 ((rd_T67 l0 x11_1).f0),.string ((rd_T67 l0 x11_1).f1),.bool ((rd_T67 l0 x11_1).f2.f0),.int .i64 ((rd_T67 l0 x11_1).f2.f1),.int .i64 ((rd_T67 l0 x11_1).f2.f2),.int .i64 ((rd_T67 l0 x11_1).f3.f0),.int .i64 ((rd_T67 l0 x11_1).f3.f1),.bool ((rd_T67 l0 x11_1).f3.f2),.bool ((rd_T67 l0 x11_1).f3.f3),.int .i64 ((rd_T67 l0 x11_1).f4.f0),.int .i64 ((rd_T67 l0 x11_1).f4.f1),.bool ((rd_T67 l0 x11_1).f4.f2),.bool false,.int .i64 0]) ?_ 12 _ rfl;refine cz ?_;refine z11q (cs:=#[.int .i64 ((rd_T67 l0 x11_1).f0),.string ((rd_T67 l0 x11_1).f1),.bool ((rd_T67 l0 x11_1).f2.f0),.int .i64 ((rd_T67 l0 x11_1).f2.f1),.int .i64 ((rd_T67 l0 x11_1).f2.f2),.int .i64 ((rd_T67 l0 x11_1).f3.f0),.int .i64 ((rd_T67 l0 x11_1).f3.f1),.bool ((rd_T67 l0 x11_1).f3.f2),.bool ((rd_T67 l0 x11_1).f3.f3),.int .i64 ((rd_T67 l0 x11_1).f4.f0),.int .i64 ((rd_T67 l0 x11_1).f4.f1),.bool false,.bool false,.int .i64 0]) ?_ 11 _ rfl;refine cz ?_;refine z11q (cs:=#[.int .i64 ((rd_T67 l0 x11_1).f0),.string ((rd_T67 l0 x11_1).f1),.bool ((rd_T67 l0 x11_1).f2.f0),.int .i64 ((rd_T67 l0 x11_1).f2.f1),.int .i64 ((rd_T67 l0 x11_1).f2.f2),.int .i64 ((rd_T67 l0 x11_1).f3.f0),.int .i64 ((rd_T67 l0 x11_1).f3.f1),.bool ((rd_T67 l0 x11_1).f3.f2),.bool ((rd_T67 l0 x11_1).f3.f3),.int .i64 ((rd_T67 l0 x11_1).f4.f0),.int .i64 0,.bool false,.bool false,.int .i64 0]) ?_ 10 _ rfl;refine cz ?_;refine z11q (cs:=#[.int .i64 ((rd_T67 l0 x11_1).f0),.string ((rd_T67 l0 x11_1).f1),.bool ((rd_T67 l0 x11_1).f2.f0),.int .i64 ((rd_T67 l0 x11_1).f2.f1),.int .i64 ((rd_T67 l0 x11_1).f2.f2),.int .i64 ((rd_T67 l0 x11_1).f3.f0),.int .i64 ((rd_T67 l0 x11_1).f3.f1),.bool ((rd_T67 l0 x11_1).f3.f2),.bool ((rd_T67 l0 x11_1).f3.f3),.int .i64 0,.int .i64 0,.bool false,.bool false,.int .i64 0]) ?_ 9 _ rfl;refine cz ?_;refine z11q (cs:=#[.int .i64 ((rd_T67 l0 x11_1).f0),.string ((rd_T67 l0 x11_1).f1),.bool ((rd_T67 l0 x11_1).f2.f0),.int .i64 ((rd_T67 l0 x11_1).f2.f1),.int .i64 ((rd_T67 l0 x11_1).f2.f2),.int .i64 ((rd_T67 l0 x11_1).f3.f0),.int .i64 ((rd_T67 l0 x11_1).f3.f1),.bool ((rd_T67 l0 x11_1).f3.f2),.bool false,.int .i64 0,.int .i64 0,.bool false,.bool false,.int .i64 0]) ?_ 8 _ rfl;refine cz ?_;refine z11q (cs:=#[.int .i64 ((rd_T67 l0 x11_1).f0),.string ((rd_T67 l0 x11_1).f1),.bool ((rd_T67 l0 x11_1).f2.f0),.int .i64 ((rd_T67 l0 x11_1).f2.f1),.int .i64 ((rd_T67 l0 x11_1).f2.f2),.int .i64 ((rd_T67 l0 x11_1).f3.f0),.int .i64 ((rd_T67 l0 x11_1).f3.f1),.bool false,.bool false,.int .i64 0,.int .i64 0,.bool false,.bool false,.int .i64 0]) ?_ 7 _ rfl;refine cz ?_;refine z11q (cs:=#[.int .i64 ((rd_T67 l0 x11_1).f0),.string ((rd_T67 l0 x11_1).f1),.bool ((rd_T67 l0 x11_1).f2.f0),.int .i64 ((rd_T67 l0 x11_1).f2.f1),.int .i64 ((rd_T67 l0 x11_1).f2.f2),.int .i64 ((rd_T67 l0 x11_1).f3.f0),.int .i64 0,.bool false,.bool false,.int .i64 0,.int .i64 0,.bool false,.bool false,.int .i64 0]) ?_ 6 _ rfl;refine cz ?_;refine z11q (cs:=#[.int .i64 ((rd_T67 l0 x11_1).f0),.string ((rd_T67 l0 x11_1).f1),.bool ((rd_T67 l0 x11_1).f2.f0),.int .i64 ((rd_T67 l0 x11_1).f2.f1),.int .i64 ((rd_T67 l0 x11_1).f2.f2),.int .i64 0,.int .i64 0,.bool false,.bool false,.int .i64 0,.int .i64 0,.bool false,.bool false,.int .i64 0]) ?_ 5 _ rfl;refine cz ?_;refine z11q (cs:=#[.int .i64 ((rd_T67 l0 x11_1).f0),.string ((rd_T67 l0 x11_1).f1),.bool ((rd_T67 l0 x11_1).f2.f0),.int .i64 ((rd_T67 l0 x11_1).f2.f1),.int .i64 0,.int .i64 0,.int .i64 0,.bool false,.bool false,.int .i64 0,.int .i64 0,.bool false,.bool false,.int .i64 0]) ?_ 4 _ rfl;refine cz ?_;refine z11q (cs:=#[.int .i64 ((rd_T67 l0 x11_1).f0),.string ((rd_T67 l0 x11_1).f1),.bool ((rd_T67 l0 x11_1).f2.f0),.int .i64 0,.int .i64 0,.int .i64 0,.int .i64 0,.bool false,.bool false,.int .i64 0,.int .i64 0,.bool false,.bool false,.int .i64 0]) ?_ 3 _ rfl;refine cz ?_;refine z11q (cs:=#[.int .i64 ((rd_T67 l0 x11_1).f0),.string ((rd_T67 l0 x11_1).f1),.bool false,.int .i64 0,.int .i64 0,.int .i64 0,.int .i64 0,.bool false,.bool false,.int .i64 0,.int .i64 0,.bool false,.bool false,.int .i64 0]) ?_ 2 _ rfl;refine cz ?_;refine z11q (cs:=#[.int .i64 ((rd_T67 l0 x11_1).f0),.string (⟨#[]⟩:ByteArray),.bool false,.int .i64 0,.int .i64 0,.int .i64 0,.int .i64 0,.bool false,.bool false,.int .i64 0,.int .i64 0,.bool false,.bool false,.int .i64 0]) ?_ 1 _ rfl;refine cz ?_;refine z11q (cs:=#[.int .i64 0,.string (⟨#[]⟩:ByteArray),.bool false,.int .i64 0,.int .i64 0,.int .i64 0,.int .i64 0,.bool false,.bool false,.int .i64 0,.int .i64 0,.bool false,.bool false,.int .i64 0]) ?_ 0 _ rfl;exact cy BK383.out) hb);have n2_:=Aside0.mk (z5q (ibh HB.out) hb);clear HO_3;clear BK383;clear HB;have HO_3:=n0_;have BK383:=n1_;have HB:=n2_;clear n0_ n1_ n2_;(try clear hb);(try clear hb2);(try clear hk);(try clear hi);obtain⟨Ao15,co15,eo15⟩:=Kd.R_slice HO_3.out;subst eo15)|(go_at_call 39;(with_reducible refine(spec_l4In.calls k1 _ _ x3_1 t384 true _ ?side1 ?side2 A10.out).mono ?_);(case side1=>repeat(first|exact(Kd.R_reads' HO_3.out).2.2|(with_reducible refine Kd.C_alloc ?_ _)|(with_reducible refine Kd.C_drewN ?_ _)|(with_reducible refine Kd.C_drew ?_)));(case side2=>exact(Kd.R_reads' HO_3.out).2.1);rintro e w' ⟨rfl,⟨nd,rfl⟩⟩))
        go_roundg k1
        case measure=>have:=HK1.out;omega
        case rel=>exact⟨(x3_1),(wrap64 (x11_1+1)),(by first|rfl|(simp;done)|(simp [*];done)|(simp;unfold wrap64;omega)),H',⟨by have:=HK1.out;omega⟩,⟨by(with_reducible repeat(first|apply Kd.R_alloc|apply Kd.R_drewN|apply Kd.R_drew));exact HO_3.out⟩,⟨by repeat(first|(with_reducible first|exact HB.out|apply z2q|apply z3q|apply z4q|refine z7q ?_ GE383.out)|exact HB.out)⟩⟩
       ·replace c11:=Bool.eq_false_iff.mpr c11
        subst c11
        have H1:((spec_l4Upper.f ((rd_T67 l0 x11_1).f1)).bind fun t386=>(if x3_1.length<8796093022208 then(spec_UsedNames.l0 k1 (x3_1 ++ [t386]) l0 (l0.length:Int) (wrap64 (x11_1+1)))else(none)))=some r:=by rw [if_neg (show ¬ (false=true)by decide)]at H;exact H
        clear H
        have H:=H1
        clear H1
        replace H:=Option.bind_eq_some_iff.mp H
        obtain⟨t386,A160,H⟩:=H
        replace H:(if x3_1.length<8796093022208 then(spec_UsedNames.l0 k1 (x3_1 ++ [t386]) l0 (l0.length:Int) (wrap64 (x11_1+1)))else(none))=some r:=H
        have A16:=Aside0.mk A160
        clear A160
        by_cases c17:x3_1.length<8796093022208
        ·rw [if_pos c17]at H
         have LMc17:=Aside0.mk c17
         clear c17
         obtain⟨y387,hy387⟩:∃ y_:List ByteArray,y_=(x3_1 ++ [t386]):=⟨_,rfl⟩
         replace H:(spec_UsedNames.l0 k1 y387 l0 (l0.length:Int) (wrap64 (x11_1+1)))=some r:=by first|(rw [hy387];with_reducible exact H)|(have H2_:=(Option.bind_some _ _).symm.trans H;rw [hy387];with_reducible exact H2_)|(have H2_:=(Option.bind_some _ _).symm.trans H;with_reducible exact H2_)|with_reducible exact H|(rw [hy387];exact H)|exact H
         have Ny387:=Aside0.mk hy387
         clear hy387
         have H':=Aside0.mk H
         clear H
         have p382:0≤(x11_1:Int):=of_decide_eq_true (by first|(with_reducible assumption)|assumption)
         have q382:x11_1<(l0.length:Int):=of_decide_eq_true (by first|(with_reducible assumption)|assumption)
         obtain⟨ad382,e382,hx382_0,hx382_1,hx382_2,hx382_3,hx382_4,hx382_5,hx382_6,hx382_7,hx382_8,hx382_9,hx382_10,hx382_11,hx382_12,hx382_13⟩:=at_T67 HR0.out x11_1 p382 q382
         cases e382
         replace hx382_0:=(hbc HB.out hx382_0).trans hx382_0
         replace hx382_1:=(hbc HB.out hx382_1).trans hx382_1
         replace hx382_2:=(hbc HB.out hx382_2).trans hx382_2
         replace hx382_3:=(hbc HB.out hx382_3).trans hx382_3
         replace hx382_4:=(hbc HB.out hx382_4).trans hx382_4
         replace hx382_5:=(hbc HB.out hx382_5).trans hx382_5
         replace hx382_6:=(hbc HB.out hx382_6).trans hx382_6
         replace hx382_7:=(hbc HB.out hx382_7).trans hx382_7
         replace hx382_8:=(hbc HB.out hx382_8).trans hx382_8
         replace hx382_9:=(hbc HB.out hx382_9).trans hx382_9
         replace hx382_10:=(hbc HB.out hx382_10).trans hx382_10
         replace hx382_11:=(hbc HB.out hx382_11).trans hx382_11
         replace hx382_12:=(hbc HB.out hx382_12).trans hx382_12
         replace hx382_13:=(hbc HB.out hx382_13).trans hx382_13
         replace p382:=eq_true p382
         replace q382:=eq_true q382
         go_wp2_with (first|((with_reducible refine z15q (N:=5) rfl ?_);refine z13q ?hg (N:=5) ?hd (cs:=#[.int .i64 0,.string (⟨#[]⟩:ByteArray),.bool false,.int .i64 0,.int .i64 0,.int .i64 0,.int .i64 0,.bool false,.bool false,.int .i64 0,.int .i64 0,.bool false,.bool false,.int .i64 0]) (t:=67) ?hr ?_;(case hd=>rfl);(case hg=>rfl);(case hr=>first|(go_simp;done)|(go_simp;rfl));intro gb383 hg w18 hbox hb;have n0_:=Aside0.mk (Kd.R_below (ro HO_3.out) hb);have n1_:=Aside0.mk (z5q (ibh HB.out) hb);have n2_:=Aside0.mk (hbox);have n3_:=Aside0.mk ((by rw [hg];exact(z6q (ibh HB.out)):w.heap.size≤gb383));have n4_:=Aside0.mk ((by rw [hg];exact(z6q (ibh HB.out)):w.heap.size≤gb383));clear HO_3;clear HB;have HO_3:=n0_;have HB:=n1_;have BK383:=n2_;have GW383:=n3_;have GE383:=n4_;clear n0_ n1_ n2_ n3_ n4_;clear hb hbox hg;obtain⟨hcz19_0,hcz19_1,hcz19_2,hcz19_3,hcz19_4,hcz19_5,hcz19_6,hcz19_7,hcz19_8,hcz19_9,hcz19_10,hcz19_11,hcz19_12,hcz19_13,hfz19_0,hfz19_1,hfz19_2,hfz19_3,hfz19_4,hfz19_5,hfz19_6,hfz19_7,hfz19_8,hfz19_9,hfz19_10,hfz19_11,hfz19_12,hfz19_13⟩:=cr14 (w:=w18) (g:=gb383) BK383.out)|(go_at_call 40;(with_reducible refine(spec_l4Upper.calls ((rd_T67 l0 x11_1).f1) t384 _ A9.out).mono ?_);rintro e w20 ⟨rfl,hb⟩;have n0_:=Aside0.mk (Kd.R_below (by(with_reducible repeat(first|apply Kd.R_alloc|apply Kd.R_drewN|apply Kd.R_drew));exact(Kd.R_mono (Kd.R_far (p:=⟨gb383,13,none⟩) (Kd.R_far (p:=⟨gb383,12,none⟩) (Kd.R_far (p:=⟨gb383,11,none⟩) (Kd.R_far (p:=⟨gb383,10,none⟩) (Kd.R_far (p:=⟨gb383,9,none⟩) (Kd.R_far (p:=⟨gb383,8,none⟩) (Kd.R_far (p:=⟨gb383,7,none⟩) (Kd.R_far (p:=⟨gb383,6,none⟩) (Kd.R_far (p:=⟨gb383,5,none⟩) (Kd.R_far (p:=⟨gb383,4,none⟩) (Kd.R_far (p:=⟨gb383,3,none⟩) (Kd.R_far (p:=⟨gb383,2,none⟩) (Kd.R_far (p:=⟨gb383,1,none⟩) (Kd.R_far (p:=⟨gb383,0,none⟩) (Kd.R_types HO_3.out BK383.out (by decide)) (fun _ hk=>hk.2) (.int .i64 ((rd_T67 l0 x11_1).f0))) (fun _ hk=>hk.2) (.string ((rd_T67 l0 x11_1).f1))) (fun _ hk=>hk.2) (.bool ((rd_T67 l0 x11_1).f2.f0))) (fun _ hk=>hk.2) (.int .i64 ((rd_T67 l0 x11_1).f2.f1))) (fun _ hk=>hk.2) (.int .i64 ((rd_T67 l0 x11_1).f2.f2))) (fun _ hk=>hk.2) (.int .i64 ((rd_T67 l0 x11_1).f3.f0))) (fun _ hk=>hk.2) (.int .i64 ((rd_T67 l0 x11_1).f3.f1))) (fun _ hk=>hk.2) (.bool ((rd_T67 l0 x11_1).f3.f2))) (fun _ hk=>hk.2) (.bool ((rd_T67 l0 x11_1).f3.f3))) (fun _ hk=>hk.2) (.int .i64 ((rd_T67 l0 x11_1).f4.f0))) (fun _ hk=>hk.2) (.int .i64 ((rd_T67 l0 x11_1).f4.f1))) (fun _ hk=>hk.2) (.bool ((rd_T67 l0 x11_1).f4.f2))) (fun _ hk=>hk.2) (.bool ((rd_T67 l0 x11_1).f4.f3))) (fun _ hk=>hk.2) (.int .i64 ((rd_T67 l0 x11_1).f5))) (fun _ h_=>h_.1))) hb);have n1_:=Aside0.mk (z12q (g:=gb383) (o:= .cells #[.int .i64 ((rd_T67 l0 x11_1).f0),.string ((rd_T67 l0 x11_1).f1),.bool ((rd_T67 l0 x11_1).f2.f0),.int .i64 ((rd_T67 l0 x11_1).f2.f1),.int .i64 ((rd_T67 l0 x11_1).f2.f2),.int .i64 ((rd_T67 l0 x11_1).f3.f0),.int .i64 ((rd_T67 l0 x11_1).f3.f1),.bool ((rd_T67 l0 x11_1).f3.f2),.bool ((rd_T67 l0 x11_1).f3.f3),.int .i64 ((rd_T67 l0 x11_1).f4.f0),.int .i64 ((rd_T67 l0 x11_1).f4.f1),.bool ((rd_T67 l0 x11_1).f4.f2),.bool ((rd_T67 l0 x11_1).f4.f3),.int .i64 ((rd_T67 l0 x11_1).f5)] 67 (0,0)) (by refine cz ?_;refine z11q (cs:=#[.int .i64 ((rd_T67 l0 x11_1).f0),.string ((rd_T67 l0 x11_1).f1),.bool ((rd_T67 l0 x11_1).f2.f0),.int .i64 ((rd_T67 l0 x11_1).f2.f1),.int .i64 ((rd_T67 l0 x11_1).f2.f2),.int .i64 ((rd_T67 l0 x11_1).f3.f0),.int .i64 ((rd_T67 l0 x11_1).f3.f1),.bool ((rd_T67 l0 x11_1).f3.f2),.bool ((rd_T67 l0 x11_1).f3.f3),.int .i64 ((rd_T67 l0 x11_1).f4.f0),.int .i64 ((rd_T67 l0 x11_1).f4.f1),.bool ((rd_T67 l0 x11_1).f4.f2),.bool ((rd_T67 l0 x11_1).f4.f3),.int .i64 0]) ?_ 13 _ rfl;refine cz ?_;refine z11q (cs:=#[.int .i64 ((rd_T67 l0 x11_1).f0),.string ((rd_T67 l0 x11_1).f1),.bool ((rd_T67 l0 x11_1).f2.f0),.int .i64 ((rd_T67 l0 x11_1).f2.f1),.int .i64 ((rd_T67 l0 x11_1).f2.f2),.int .i64 ((rd_T67 l0 x11_1).f3.f0),.int .i64 ((rd_T67 l0 x11_1).f3.f1),.bool ((rd_T67 l0 x11_1).f3.f2),.bool ((rd_T67 l0 x11_1).f3.f3),.int .i64 ((rd_T67 l0 x11_1).f4.f0),.int .i64 ((rd_T67 l0 x11_1).f4.f1),.bool ((rd_T67 l0 x11_1).f4.f2),.bool false,.int .i64 0]) ?_ 12 _ rfl;refine cz ?_;refine z11q (cs:=#[.int .i64 ((rd_T67 l0 x11_1).f0),.string ((rd_T67 l0 x11_1).f1),.bool ((rd_T67 l0 x11_1).f2.f0),.int .i64 ((rd_T67 l0 x11_1).f2.f1),.int .i64 ((rd_T67 l0 x11_1).f2.f2),.int .i64 ((rd_T67 l0 x11_1).f3.f0),.int .i64 ((rd_T67 l0 x11_1).f3.f1),.bool ((rd_T67 l0 x11_1).f3.f2),.bool ((rd_T67 l0 x11_1).f3.f3),.int .i64 ((rd_T67 l0 x11_1).f4.f0),.int .i64 ((rd_T67 l0 x11_1).f4.f1),.bool false,.bool false,.int .i64 0]) ?_ 11 _ rfl;refine cz ?_;refine z11q (cs:=#[.int .i64 ((rd_T67 l0 x11_1).f0),.string ((rd_T67 l0 x11_1).f1),.bool ((rd_T67 l0 x11_1).f2.f0),.int .i64 ((rd_T67 l0 x11_1).f2.f1),.int .i64 ((rd_T67 l0 x11_1).f2.f2),.int .i64 ((rd_T67 l0 x11_1).f3.f0),.int .i64 ((rd_T67 l0 x11_1).f3.f1),.bool ((rd_T67 l0 x11_1).f3.f2),.bool ((rd_T67 l0 x11_1).f3.f3),.int .i64 ((rd_T67 l0 x11_1).f4.f0),.int .i64 0,.bool false,.bool false,.int .i64 0]) ?_ 10 _ rfl;refine cz ?_;refine z11q (cs:=#[.int .i64 ((rd_T67 l0 x11_1).f0),.string ((rd_T67 l0 x11_1).f1),.bool ((rd_T67 l0 x11_1).f2.f0),.int .i64 ((rd_T67 l0 x11_1).f2.f1),.int .i64 ((rd_T67 l0 x11_1).f2.f2),.int .i64 ((rd_T67 l0 x11_1).f3.f0),.int .i64 ((rd_T67 l0 x11_1).f3.f1),.bool ((rd_T67 l0 x11_1).f3.f2),.bool ((rd_T67 l0 x11_1).f3.f3),.int .i64 0,.int .i64 0,.bool false,.bool false,.int .i64 0]) ?_ 9 _ rfl;refine cz ?_;refine z11q (cs:=#[.int .i64 ((rd_T67 l0 x11_1).f0),.string ((rd_T67 l0 x11_1).f1),.bool ((rd_T67 l0 x11_1).f2.f0),.int .i64 ((rd_T67 l0 x11_1).f2.f1),.int .i64 ((rd_T67 l0 x11_1).f2.f2),.int .i64 ((rd_T67 l0 x11_1).f3.f0),.int .i64 ((rd_T67 l0 x11_1).f3.f1),.bool ((rd_T67 l0 x11_1).f3.f2),.bool false,.int .i64 0,.int .i64 0,.bool false,.bool false,.int .i64 0]) ?_ 8 _ rfl;refine cz ?_;refine z11q (cs:=#[.int .i64 ((rd_T67 l0 x11_1).f0),.string ((rd_T67 l0 x11_1).f1),.bool ((rd_T67 l0 x11_1).f2.f0),.int .i64 ((rd_T67 l0 x11_1).f2.f1),.int .i64 ((rd_T67 l0 x11_1).f2.f2),.int .i64 ((rd_T67 l0 x11_1).f3.f0),.int .i64 ((rd_T67 l0 x11_1).f3.f1),.bool false,.bool false,.int .i64 0,.int .i64 0,.bool false,.bool false,.int .i64 0]) ?_ 7 _ rfl;refine cz ?_;refine z11q (cs:=#[.int .i64 ((rd_T67 l0 x11_1).f0),.string ((rd_T67 l0 x11_1).f1),.bool ((rd_T67 l0 x11_1).f2.f0),.int .i64 ((rd_T67 l0 x11_1).f2.f1),.int .i64 ((rd_T67 l0 x11_1).f2.f2),.int .i64 ((rd_T67 l0 x11_1).f3.f0),.int .i64 0,.bool false,.bool false,.int .i64 0,.int .i64 0,.bool false,.bool false,.int .i64 0]) ?_ 6 _ rfl;refine cz ?_;refine z11q (cs:=#[.int .i64 ((rd_T67 l0 x11_1).f0),.string ((rd_T67 l0 x11_1).f1),.bool ((rd_T67 l0 x11_1).f2.f0),.int .i64 ((rd_T67 l0 x11_1).f2.f1),.int .i64 ((rd_T67 l0 x11_1).f2.f2),.int .i64 0,.int .i64 0,.bool false,.bool false,.int .i64 0,.int .i64 0,.bool false,.bool false,.int .i64 0]) ?_ 5 _ rfl;refine cz ?_;refine z11q (cs:=#[.int .i64 ((rd_T67 l0 x11_1).f0),.string ((rd_T67 l0 x11_1).f1),.bool ((rd_T67 l0 x11_1).f2.f0),.int .i64 ((rd_T67 l0 x11_1).f2.f1),.int .i64 0,.int .i64 0,.int .i64 0,.bool false,.bool false,.int .i64 0,.int .i64 0,.bool false,.bool false,.int .i64 0]) ?_ 4 _ rfl;refine cz ?_;refine z11q (cs:=#[.int .i64 ((rd_T67 l0 x11_1).f0),.string ((rd_T67 l0 x11_1).f1),.bool ((rd_T67 l0 x11_1).f2.f0),.int .i64 0,.int .i64 0,.int .i64 0,.int .i64 0,.bool false,.bool false,.int .i64 0,.int .i64 0,.bool false,.bool false,.int .i64 0]) ?_ 3 _ rfl;refine cz ?_;refine z11q (cs:=#[.int .i64 ((rd_T67 l0 x11_1).f0),.string ((rd_T67 l0 x11_1).f1),.bool false,.int .i64 0,.int .i64 0,.int .i64 0,.int .i64 0,.bool false,.bool false,.int .i64 0,.int .i64 0,.bool false,.bool false,.int .i64 0]) ?_ 2 _ rfl;refine cz ?_;refine z11q (cs:=#[.int .i64 ((rd_T67 l0 x11_1).f0),.string (⟨#[]⟩:ByteArray),.bool false,.int .i64 0,.int .i64 0,.int .i64 0,.int .i64 0,.bool false,.bool false,.int .i64 0,.int .i64 0,.bool false,.bool false,.int .i64 0]) ?_ 1 _ rfl;refine cz ?_;refine z11q (cs:=#[.int .i64 0,.string (⟨#[]⟩:ByteArray),.bool false,.int .i64 0,.int .i64 0,.int .i64 0,.int .i64 0,.bool false,.bool false,.int .i64 0,.int .i64 0,.bool false,.bool false,.int .i64 0]) ?_ 0 _ rfl;exact cy BK383.out) hb);have n2_:=Aside0.mk (z5q (ibh HB.out) hb);clear HO_3;clear BK383;clear HB;have HO_3:=n0_;have BK383:=n1_;have HB:=n2_;clear n0_ n1_ n2_;(try clear hb);(try clear hb2);(try clear hk);(try clear hi);obtain⟨Ao21,co21,eo21⟩:=Kd.R_slice HO_3.out;subst eo21)|(go_at_call 39;(with_reducible refine(spec_l4In.calls k1 _ _ x3_1 t384 false _ ?side1 ?side2 A10.out).mono ?_);(case side1=>repeat(first|exact(Kd.R_reads' HO_3.out).2.2|(with_reducible refine Kd.C_alloc ?_ _)|(with_reducible refine Kd.C_drewN ?_ _)|(with_reducible refine Kd.C_drew ?_)));(case side2=>exact(Kd.R_reads' HO_3.out).2.1);rintro e w' ⟨rfl,⟨nd,rfl⟩⟩;obtain⟨hcz22_0,hcz22_1,hcz22_2,hcz22_3,hcz22_4,hcz22_5,hcz22_6,hcz22_7,hcz22_8,hcz22_9,hcz22_10,hcz22_11,hcz22_12,hcz22_13,hfz22_0,hfz22_1,hfz22_2,hfz22_3,hfz22_4,hfz22_5,hfz22_6,hfz22_7,hfz22_8,hfz22_9,hfz22_10,hfz22_11,hfz22_12,hfz22_13⟩:=cr14 (w:=w20) (g:=gb383) BK383.out)|((with_reducible refine z8q (f:=40) rfl ?_);refine z17q (some 29) rfl rfl Tryz.func40 (by kernel_rfl) rfl #[.string ((rd_T67 l0 x11_1).f1)] rfl (by(try simp only [map_toArray,map_cons,map_nil]);first|done|rfl|(simp only [length_drop,length_take];rfl)) ?_;(with_reducible refine(spec_l4Upper.calls ((rd_T67 l0 x11_1).f1) t386 _ A16.out).mono ?_);rintro e w23 ⟨rfl,hb⟩;refine⟨_,rfl,?_⟩;have n0_:=Aside0.mk (Kd.R_below (ro HO_3.out) hb);have n1_:=Aside0.mk (z12q (cy BK383.out) hb);have n2_:=Aside0.mk (z5q (ibh HB.out) hb);clear HO_3;clear BK383;clear HB;have HO_3:=n0_;have BK383:=n1_;have HB:=n2_;clear n0_ n1_ n2_;(try clear hb);(try clear hb2);(try clear hk);(try clear hi))|((with_reducible refine gate_builtin (b:= .append) (xs:=#[.tmp 26,.tmp 30]) rfl ?_);at_builtin;refine Kd.R_append Kd.string (w0:=w) w.heap.size rfl (.tmp 26) (.tmp 30) 29 9 (.string ⟨#[]⟩) 16 rfl Tryz.underlying29 info9 rfl (by decide) (by omega) (.slice Ao21 x3_1.length co21) x3_1 t386 [.string t386] (fun _=>True) (fun _=>False) rfl rfl ?aP (fun _ hk=>hk.elim) ?aF ?aO ?aB ?aS ?aL ?_;(case aP=>exact rfl);(case aB=>exact(ibh HB.out));(case aF=>exact(fun _ _=>trivial));(case aO=>exact(ro HO_3.out));(case aS=>exact(z6q (ibh HB.out)));(case aL=>have:=LMc17.out;omega);intro v388 w24 ho hb hg hat;rw [←Ny387.out]at ho;have n0_:=Aside0.mk (blk_grown (g:=gb383) (o:= .cells #[.int .i64 ((rd_T67 l0 x11_1).f0),.string ((rd_T67 l0 x11_1).f1),.bool ((rd_T67 l0 x11_1).f2.f0),.int .i64 ((rd_T67 l0 x11_1).f2.f1),.int .i64 ((rd_T67 l0 x11_1).f2.f2),.int .i64 ((rd_T67 l0 x11_1).f3.f0),.int .i64 ((rd_T67 l0 x11_1).f3.f1),.bool ((rd_T67 l0 x11_1).f3.f2),.bool ((rd_T67 l0 x11_1).f3.f3),.int .i64 ((rd_T67 l0 x11_1).f4.f0),.int .i64 ((rd_T67 l0 x11_1).f4.f1),.bool ((rd_T67 l0 x11_1).f4.f2),.bool ((rd_T67 l0 x11_1).f4.f3),.int .i64 ((rd_T67 l0 x11_1).f5)] 67 (0,0)) (cy BK383.out) hg (Kd.R_ne HO_3.out BK383.out (by decide)));have n1_:=Aside0.mk (hb);have n2_:=Aside0.mk (ho);clear BK383;clear HB;clear HO_3;have BK383:=n0_;have HB:=n1_;have HO389:=n2_;clear n0_ n1_ n2_;clear ho hb hg hat))
         go_roundg k1
         case measure=>have:=HK1.out;omega
         case rel=>exact⟨(y387),(wrap64 (x11_1+1)),(by first|rfl|(simp;done)|(simp [*];done)|(simp;unfold wrap64;omega)),H',⟨by have:=HK1.out;omega⟩,⟨by(with_reducible repeat(first|apply Kd.R_alloc|apply Kd.R_drewN|apply Kd.R_drew));exact HO389.out⟩,⟨by repeat(first|(with_reducible first|exact HB.out|apply z2q|apply z3q|apply z4q|refine z7q ?_ GE383.out)|exact HB.out)⟩⟩
        ·rw [if_neg c17]at H
         exact absurd H (by simp)
      ·rw [if_neg c8]at H
       have c8b0:(((rd_T67 l0 x11_1).f0)==7)=false:=beq_eq_false_iff_ne.mpr c8
       have c8b1:(((rd_T67 l0 x11_1).f0) !=7)=true:=bne_iff_ne.mpr c8
       have H':=Aside0.mk H
       clear H
       have p382:0≤(x11_1:Int):=of_decide_eq_true (by first|(with_reducible assumption)|assumption)
       have q382:x11_1<(l0.length:Int):=of_decide_eq_true (by first|(with_reducible assumption)|assumption)
       obtain⟨ad382,e382,hx382_0,hx382_1,hx382_2,hx382_3,hx382_4,hx382_5,hx382_6,hx382_7,hx382_8,hx382_9,hx382_10,hx382_11,hx382_12,hx382_13⟩:=at_T67 HR0.out x11_1 p382 q382
       cases e382
       replace hx382_0:=(hbc HB.out hx382_0).trans hx382_0
       replace hx382_1:=(hbc HB.out hx382_1).trans hx382_1
       replace hx382_2:=(hbc HB.out hx382_2).trans hx382_2
       replace hx382_3:=(hbc HB.out hx382_3).trans hx382_3
       replace hx382_4:=(hbc HB.out hx382_4).trans hx382_4
       replace hx382_5:=(hbc HB.out hx382_5).trans hx382_5
       replace hx382_6:=(hbc HB.out hx382_6).trans hx382_6
       replace hx382_7:=(hbc HB.out hx382_7).trans hx382_7
       replace hx382_8:=(hbc HB.out hx382_8).trans hx382_8
       replace hx382_9:=(hbc HB.out hx382_9).trans hx382_9
       replace hx382_10:=(hbc HB.out hx382_10).trans hx382_10
       replace hx382_11:=(hbc HB.out hx382_11).trans hx382_11
       replace hx382_12:=(hbc HB.out hx382_12).trans hx382_12
       replace hx382_13:=(hbc HB.out hx382_13).trans hx382_13
       replace p382:=eq_true p382
       replace q382:=eq_true q382
       go_wp2_with (first|((with_reducible refine z15q (N:=5) rfl ?_);refine z13q ?hg (N:=5) ?hd (cs:=#[.int .i64 0,.string (⟨#[]⟩:ByteArray),.bool false,.int .i64 0,.int .i64 0,.int .i64 0,.int .i64 0,.bool false,.bool false,.int .i64 0,.int .i64 0,.bool false,.bool false,.int .i64 0]) (t:=67) ?hr ?_;(case hd=>rfl);(case hg=>rfl);(case hr=>first|(go_simp;done)|(go_simp;rfl));intro gb383 hg w25 hbox hb;have n0_:=Aside0.mk (Kd.R_below (ro HO_3.out) hb);have n1_:=Aside0.mk (z5q (ibh HB.out) hb);have n2_:=Aside0.mk (hbox);have n3_:=Aside0.mk ((by rw [hg];exact(z6q (ibh HB.out)):w.heap.size≤gb383));have n4_:=Aside0.mk ((by rw [hg];exact(z6q (ibh HB.out)):w.heap.size≤gb383));clear HO_3;clear HB;have HO_3:=n0_;have HB:=n1_;have BK383:=n2_;have GW383:=n3_;have GE383:=n4_;clear n0_ n1_ n2_ n3_ n4_;clear hb hbox hg;obtain⟨hcz26_0,hcz26_1,hcz26_2,hcz26_3,hcz26_4,hcz26_5,hcz26_6,hcz26_7,hcz26_8,hcz26_9,hcz26_10,hcz26_11,hcz26_12,hcz26_13,hfz26_0,hfz26_1,hfz26_2,hfz26_3,hfz26_4,hfz26_5,hfz26_6,hfz26_7,hfz26_8,hfz26_9,hfz26_10,hfz26_11,hfz26_12,hfz26_13⟩:=cr14 (w:=w25) (g:=gb383) BK383.out))
       go_roundg k1
       case measure=>have:=HK1.out;omega
       case rel=>exact⟨(x3_1),(wrap64 (x11_1+1)),(by first|rfl|(simp;done)|(simp [*];done)|(simp;unfold wrap64;omega)),H',⟨by have:=HK1.out;omega⟩,⟨by(with_reducible repeat(first|apply Kd.R_alloc|apply Kd.R_drewN|apply Kd.R_drew));exact Kd.R_mono (Kd.R_far (p:=⟨gb383,13,none⟩) (Kd.R_far (p:=⟨gb383,12,none⟩) (Kd.R_far (p:=⟨gb383,11,none⟩) (Kd.R_far (p:=⟨gb383,10,none⟩) (Kd.R_far (p:=⟨gb383,9,none⟩) (Kd.R_far (p:=⟨gb383,8,none⟩) (Kd.R_far (p:=⟨gb383,7,none⟩) (Kd.R_far (p:=⟨gb383,6,none⟩) (Kd.R_far (p:=⟨gb383,5,none⟩) (Kd.R_far (p:=⟨gb383,4,none⟩) (Kd.R_far (p:=⟨gb383,3,none⟩) (Kd.R_far (p:=⟨gb383,2,none⟩) (Kd.R_far (p:=⟨gb383,1,none⟩) (Kd.R_far (p:=⟨gb383,0,none⟩) (Kd.R_types HO_3.out BK383.out (by decide)) (fun _ hk=>hk.2) (.int .i64 ((rd_T67 l0 x11_1).f0))) (fun _ hk=>hk.2) (.string ((rd_T67 l0 x11_1).f1))) (fun _ hk=>hk.2) (.bool ((rd_T67 l0 x11_1).f2.f0))) (fun _ hk=>hk.2) (.int .i64 ((rd_T67 l0 x11_1).f2.f1))) (fun _ hk=>hk.2) (.int .i64 ((rd_T67 l0 x11_1).f2.f2))) (fun _ hk=>hk.2) (.int .i64 ((rd_T67 l0 x11_1).f3.f0))) (fun _ hk=>hk.2) (.int .i64 ((rd_T67 l0 x11_1).f3.f1))) (fun _ hk=>hk.2) (.bool ((rd_T67 l0 x11_1).f3.f2))) (fun _ hk=>hk.2) (.bool ((rd_T67 l0 x11_1).f3.f3))) (fun _ hk=>hk.2) (.int .i64 ((rd_T67 l0 x11_1).f4.f0))) (fun _ hk=>hk.2) (.int .i64 ((rd_T67 l0 x11_1).f4.f1))) (fun _ hk=>hk.2) (.bool ((rd_T67 l0 x11_1).f4.f2))) (fun _ hk=>hk.2) (.bool ((rd_T67 l0 x11_1).f4.f3))) (fun _ hk=>hk.2) (.int .i64 ((rd_T67 l0 x11_1).f5))) (fun _ hk=>trivial)⟩,⟨by repeat(first|(with_reducible first|exact HB.out|apply z2q|apply z3q|apply z4q|refine z7q ?_ GE383.out)|exact HB.out)⟩⟩
     ·rw [if_neg c7]at H
      exact absurd H (by simp)
    ·rw [if_neg c6]at H
     exact absurd H (by simp)
   ·rw [if_neg c5]at H
    have c5b0:decide (x11_1<(l0.length:Int))=false:=decide_eq_false c5
    clear c5
    obtain rfl:=Option.some.inj H
    go_wp2
    go_ret
    exact⟨_,by first|rfl|(simp [errW_none,errW_some]<;>rfl)|(simp [*,errW_none,errW_some]<;>rfl),by(with_reducible repeat(first|apply Kd.R_alloc|apply Kd.R_drewN|apply Kd.R_drew));exact HO_3.out,by repeat(first|(with_reducible first|exact HB.out|apply z2q|apply z3q|apply z4q)|exact HB.out)⟩

set_option maxHeartbeats 8000000 in
set_option maxRecDepth 100000 in
theorem spec_UsedNames.calls_p2 (k:Nat) (A0:Option Addr) (c0:Nat) (l0:List (S67)) (r:List ByteArray) (w:World) (hr0:Kd.C k67 w A0 l0.length l0) (hc0:l0.length≤c0) (t381:_) (A2:Aside0 ((spec_GoodFormula.f k l0)=some t381)) (c3:¬ (t381=true)) (H:(if t381=true then(spec_UsedNames.l0 k ([]:List ByteArray) l0 (l0.length:Int) 0)else(some ([]:List ByteArray)))=some r):
  Calls Tryz.prog 14 #[.slice A0 l0.length c0] w fun e w'=>∃ v0_:Value,e= .returned (v0_)∧Kd.R Kd.string 9 w' w.heap.size (fun _=>True) v0_ r∧Below w.heap.size w w':=by
 have hu67:=Tryz.underlying67
 have HR0:=Aside0.mk hr0
 have HC0:=Aside0.mk hc0
 clear hr0 hc0
 have HB:=Aside0.mk (Below.refl w.heap.size w)
 replace c3:=Bool.eq_false_iff.mpr c3
 subst c3
 have H1:(some ([]:List ByteArray))=some r:=by rw [if_neg (show ¬ (false=true)by decide)]at H;exact H
 clear H
 have H:=H1
 clear H1
 obtain rfl:=Option.some.inj H
 go_enter Tryz.func14,Tryz.ntmps14
 go_wp2_with (first|((with_reducible refine z8q (f:=10) rfl ?_);refine z17q (some 7) rfl rfl Tryz.func10 (by kernel_rfl) rfl #[.slice A0 l0.length c0] rfl (by(try simp only [map_toArray,map_cons,map_nil]);first|done|rfl|(simp only [length_drop,length_take];rfl)) ?_;(with_reducible refine(spec_GoodFormula.calls k _ _ l0 false _ ?side1 ?side2 A2.out).mono ?_);(case side1=>repeat(first|exact HR0.out|(with_reducible refine Kd.C_alloc ?_ _)|(with_reducible refine Kd.C_drewN ?_ _)|(with_reducible refine Kd.C_drew ?_)));(case side2=>exact HC0.out);rintro e w27 ⟨rfl,hb⟩;refine⟨_,rfl,?_⟩;have n0_:=Aside0.mk (z5q (ibh HB.out) hb);clear HB;have HB:=n0_;clear n0_;(try clear hb);(try clear hb2);(try clear hk);(try clear hi)))
 go_ret
 exact⟨_,by first|rfl|(simp [errW_none,errW_some]<;>rfl)|(simp [*,errW_none,errW_some]<;>rfl),by first|exact Kd.R_nil _ _ _ _ _|exact Kd.N_nil _ _ _ _ _|exact Kd.V_nil _ _ _ _ _|exact Kd.Q_nil _ _ _ _ _|exact Kd.S_nil _ _ _ _ _,by repeat(first|(with_reducible first|exact HB.out|apply z2q|apply z3q|apply z4q)|exact HB.out)⟩

set_option maxHeartbeats 8000000 in
set_option maxRecDepth 100000 in
theorem spec_UsedNames.calls (k:Nat) (A0:Option Addr) (c0:Nat) (l0:List (S67)) (r:List ByteArray) (w:World) (hr0:Kd.C k67 w A0 l0.length l0) (hc0:l0.length≤c0) (h:spec_UsedNames.f k l0=some r):
  Calls Tryz.prog 14 #[.slice A0 l0.length c0] w fun e w'=>∃ v0_:Value,e= .returned (v0_)∧Kd.R Kd.string 9 w' w.heap.size (fun _=>True) v0_ r∧Below w.heap.size w w':=by
 have H:((spec_GoodFormula.f k l0).bind fun t381=>(if t381=true then(spec_UsedNames.l0 k ([]:List ByteArray) l0 (l0.length:Int) 0)else(some ([]:List ByteArray))))=some r:=h
 replace H:=Option.bind_eq_some_iff.mp H
 obtain⟨t381,A20,H⟩:=H
 replace H:(if t381=true then(spec_UsedNames.l0 k ([]:List ByteArray) l0 (l0.length:Int) 0)else(some ([]:List ByteArray)))=some r:=H
 have A2:=Aside0.mk A20
 clear A20
 by_cases c3:t381=true
 ·exact spec_UsedNames.calls_p1 k A0 c0 l0 r w hr0 hc0 t381 A2 c3 H
 ·exact spec_UsedNames.calls_p2 k A0 c0 l0 r w hr0 hc0 t381 A2 c3 H

/-! ### impl_capitals: function 41 -/

set_option maxHeartbeats 4000000 in
theorem capitals_calls (s:ByteArray) (hs:s.size≤1048576) (w:World):
  Calls Tryz.prog 41 #[.string s] w fun e w'=>e= .returned (.string (upS s))∧Below w.heap.size w w':=by
 have hcv:=conv_at s
 have hr:=row_new s w
 have hb:=below_bytes w s
 have HR:=Lib.hid hr;have HB:=Lib.hid hb;clear hr hb
 go_enter Tryz.func41,Tryz.ntmps41
 go_wp2_with fail
 go_loopw [9] (fun i w'=>∃ j:Nat,j≤s.size∧i= .int .i64 j∧Hid (Below w.heap.size w w')∧Hid (Row s w.heap.size w' (upTo s j))) (fun i _=>s.size-(intOf i).toNat)
 case atStart=>exact⟨0,Nat.zero_le _,rfl,HB.out,HR.out.same fun i=>by simp [upTo]⟩
 case round=>
  obtain⟨j,hj,rfl,hbw,hrow⟩:=hrel
  by_cases hlt:j<s.size
  ·have hcell:=hrow.out.cell hlt
   have hfz:=hrow.out.frozen hlt
   have e0:upTo s j j=byI s j:=by unfold upTo;rw [if_neg (by omega)]
   rw [e0]at hcell
   obtain⟨v0,v1⟩:=byI_le s j
   have hput:∀ i,i≠j→upTo s (j+1) i=upTo s j i:=fun i hi=>by
    unfold upTo;by_cases h1:i<j
    ·rw [if_pos h1,if_pos (by omega)]
    ·rw [if_neg h1,if_neg (by omega)]
   have hat:upTo s (j+1) j=upI (byI s j):=by unfold upTo;rw [if_pos (by omega)]
   have HP:=Lib.hid hput;have HA:=Lib.hid hat;have HE0:=Lib.hid e0;clear hput hat e0
   by_cases h1:97≤byI s j
   ·have b1:decide (byI s j≥97)=true:=decide_eq_true h1
    by_cases h2:byI s j≤122
    ·have b2:decide (byI s j≤122)=true:=decide_eq_true h2
     go_wp2_with fail
     go_roundw
     case rel=>exact⟨j+1,by omega,by go_num,Below.setCell hbw.out (p:=⟨w.heap.size,j,none⟩) (Nat.le_refl _) _,hrow.out.put _ (by rw [HA.out];unfold upI;rw [if_pos ⟨h1,h2⟩]) HP.out⟩
     case measure=>simp [intOf];omega
    ·have b2:decide (byI s j≤122)=false:=decide_eq_false h2
     go_wp2_with fail
     go_roundw
     case rel=>exact⟨j+1,by omega,by go_num,hbw.out,Row.same (f':=upTo s (j+1)) hrow.out fun i=>by
      by_cases e:i=j
      ·subst e;rw [HA.out,HE0.out];unfold upI;rw [if_neg (by omega)]
      ·exact HP.out i e⟩
     case measure=>simp [intOf];omega
   ·have b1:decide (byI s j≥97)=false:=decide_eq_false h1
    go_wp2_with fail
    go_roundw
    case rel=>exact⟨j+1,by omega,by go_num,hbw.out,Row.same (f':=upTo s (j+1)) hrow.out fun i=>by
      by_cases e:i=j
      ·subst e;rw [HA.out,HE0.out];unfold upI;rw [if_neg (by omega)]
      ·exact HP.out i e⟩
    case measure=>simp [intOf];omega
  ·obtain rfl:j=s.size:=by omega
   have hcb:=conv_back hrow.out (show s.size≤9223372036854775807 by omega)
   have hup:strOfNums ((List.range s.size).map (upTo s s.size))=upS s:=by
    unfold upS;congr 1
    refine List.map_congr_left fun i hi=> ?_
    unfold upTo;rw [if_pos (List.mem_range.1 hi)]
   rw [hup]at hcb
   clear hup
   go_wp2_with fail
   go_ret
   exact⟨rfl,hbw.out⟩

def impl_capitals.f (a0:ByteArray):Option ByteArray:=if a0.size≤1048576 then some (upS a0)else none

theorem impl_capitals.calls (a0:ByteArray) (r:ByteArray) (w:World) (h:impl_capitals.f a0=some r):
  Calls Tryz.prog 41 #[.string a0] w fun e w'=>e= .returned (.string r)∧Below w.heap.size w w':=by
 unfold impl_capitals.f at h
 by_cases hs:a0.size≤1048576
 ·rw [if_pos hs]at h
  obtain rfl:=Option.some.inj h
  exact capitals_calls a0 hs w
 ·rw [if_neg hs]at h;cases h



/-! ### impl_Ref_place: function 61 -/

def impl_Ref_place.f (a0_0:Int) (a0_1:Int) (a0_2:Bool) (a0_3:Bool):Option (Int×Int):=some (a0_0,a0_1)

set_option maxHeartbeats 8000000 in
set_option maxRecDepth 100000 in
theorem impl_Ref_place.calls (a0_0:Int) (a0_1:Int) (a0_2:Bool) (a0_3:Bool) (r1:Int) (r2:Int) (w:World) (h:impl_Ref_place.f a0_0 a0_1 a0_2 a0_3=some (r1,r2)):
  Calls Tryz.prog 61 #[.agg #[.int .i64 a0_0,.int .i64 a0_1,.bool a0_2,.bool a0_3]] w fun e w'=>e= .returned (.agg #[.int .i64 r1,.int .i64 r2])∧Below w.heap.size w w':=by
 have hu47:=Tryz.underlying47
 have hu88:=Tryz.underlying88
 have HB:=Aside0.mk (Below.refl w.heap.size w)
 have H:(some (a0_0,a0_1))=some (r1,r2):=h
 clear h
 simp only [Option.some.injEq,Prod.mk.injEq]at H
 obtain⟨rfl,rfl⟩:=H
 go_enter Tryz.func61,Tryz.ntmps61
 go_wp2_with (first|((with_reducible refine z15q (N:=1) rfl ?_);refine z13q ?hg (N:=1) ?hd (cs:=#[.int .i64 a0_0,.int .i64 a0_1,.bool a0_2,.bool a0_3]) (t:=47) ?hr ?_;(case hd=>rfl);(case hg=>rfl);(case hr=>first|(go_simp;done)|(go_simp;rfl));intro gb393 hg w2 hbox hb;have n0_:=Aside0.mk (z5q (ibh HB.out) hb);have n1_:=Aside0.mk (hbox);have n2_:=Aside0.mk ((by rw [hg];exact(z6q (ibh HB.out)):w.heap.size≤gb393));have n3_:=Aside0.mk ((by rw [hg];exact(z6q (ibh HB.out)):w.heap.size≤gb393));clear HB;have HB:=n0_;have BK393:=n1_;have GW393:=n2_;have GE393:=n3_;clear n0_ n1_ n2_ n3_;clear hb hbox hg)|((with_reducible refine z15q (N:=2) rfl ?_);refine z13q ?hg (N:=2) ?hd (cs:=#[.int .i64 0,.int .i64 0]) (t:=88) ?hr ?_;(case hd=>rfl);(case hg=>rfl);(case hr=>first|(go_simp;done)|(go_simp;rfl));intro gb394 hg w3 hbox hb;have n0_:=Aside0.mk (z12q (cy BK393.out) hb);have n1_:=Aside0.mk (z5q (ibh HB.out) hb);have n2_:=Aside0.mk (hbox);have n3_:=Aside0.mk ((by rw [hg];exact(z6q (ibh HB.out)):w.heap.size≤gb394));have n4_:=Aside0.mk ((by rw [hg];exact(z6q (ibh HB.out)):w.heap.size≤gb394));have n5_:=Aside0.mk ((by rw [hg];exact Nat.ne_of_lt (z20q (cy BK393.out)):gb393≠gb394));have n6_:=Aside0.mk ((by rw [hg];exact Nat.ne_of_gt (z20q (cy BK393.out)):gb394≠gb393));clear BK393;clear HB;have BK393:=n0_;have HB:=n1_;have BK394:=n2_;have GW394:=n3_;have GE394:=n4_;have NB393_394:=n5_;have NB394_393:=n6_;clear n0_ n1_ n2_ n3_ n4_ n5_ n6_;clear hb hbox hg;have hnb4:=NB393_394.out;have hnc4:=NB394_393.out;obtain⟨hcz5_0,hcz5_1,hcz5_2,hcz5_3,hfz5_0,hfz5_1,hfz5_2,hfz5_3⟩:=cr4 (w:=w3) (g:=gb393) BK393.out;obtain⟨hcz6_0,hcz6_1,hfz6_0,hfz6_1⟩:=cr2 (w:=w3) (g:=gb394) BK394.out))
 refine bodyPost_ret (results_cell_row rfl _ _ gb394 88 #[.int .i64 a0_0,.int .i64 a0_1] (0,0) _ rfl (by refine cz ?_;refine z11q (cs:=#[.int .i64 a0_0,.int .i64 0]) ?_ 1 _ rfl;refine cz ?_;refine z11q (cs:=#[.int .i64 0,.int .i64 0]) ?_ 0 _ rfl;exact cy BK394.out) Tryz.underlying88 rfl (by kernel_rfl)) rfl ?_
 exact⟨by first|rfl|(simp [errW_none,errW_some]<;>rfl)|(simp [*,errW_none,errW_some]<;>rfl),by repeat(first|(with_reducible first|exact HB.out|apply z2q|apply z3q|apply z4q|refine z7q ?_ GE393.out|refine z7q ?_ GE394.out)|exact HB.out)⟩



/-! ### impl_place_good: function 78 -/

def impl_place_good.f (a0_0:Int) (a0_1:Int):Option (Bool):=if a0_0≥1 then(if a0_0≤1000 then(if a0_1≥1 then(some (decide (a0_1≤200)))else(some false))else(some false))else(some false)

set_option maxHeartbeats 8000000 in
set_option maxRecDepth 100000 in
theorem impl_place_good.calls (a0_0:Int) (a0_1:Int) (r:Bool) (w:World) (h:impl_place_good.f a0_0 a0_1=some r):
  Calls Tryz.prog 78 #[.agg #[.int .i64 a0_0,.int .i64 a0_1]] w fun e w'=>e= .returned (.bool r)∧Below w.heap.size w w':=by
 have hu88:=Tryz.underlying88
 have HB:=Aside0.mk (Below.refl w.heap.size w)
 have H:(if a0_0≥1 then(if a0_0≤1000 then(if a0_1≥1 then(some (decide (a0_1≤200)))else(some false))else(some false))else(some false))=some r:=h
 clear h
 by_cases c2:a0_0≥1
 ·rw [if_pos c2]at H
  have c2b0:decide (1≤a0_0)=true:=decide_eq_true c2
  clear c2
  by_cases c3:a0_0≤1000
  ·rw [if_pos c3]at H
   have c3b0:decide (a0_0≤1000)=true:=decide_eq_true c3
   clear c3
   by_cases c4:a0_1≥1
   ·rw [if_pos c4]at H
    have c4b0:decide (1≤a0_1)=true:=decide_eq_true c4
    clear c4
    obtain rfl:=Option.some.inj H
    go_enter Tryz.func78,Tryz.ntmps78
    go_wp2_with (first|((with_reducible refine z15q (N:=1) rfl ?_);refine z13q ?hg (N:=1) ?hd (cs:=#[.int .i64 a0_0,.int .i64 a0_1]) (t:=88) ?hr ?_;(case hd=>rfl);(case hg=>rfl);(case hr=>first|(go_simp;done)|(go_simp;rfl));intro gb395 hg w5 hbox hb;have n0_:=Aside0.mk (z5q (ibh HB.out) hb);have n1_:=Aside0.mk (hbox);have n2_:=Aside0.mk ((by rw [hg];exact(z6q (ibh HB.out)):w.heap.size≤gb395));have n3_:=Aside0.mk ((by rw [hg];exact(z6q (ibh HB.out)):w.heap.size≤gb395));clear HB;have HB:=n0_;have BK395:=n1_;have GW395:=n2_;have GE395:=n3_;clear n0_ n1_ n2_ n3_;clear hb hbox hg;obtain⟨hcz6_0,hcz6_1,hfz6_0,hfz6_1⟩:=cr2 (w:=w5) (g:=gb395) BK395.out))
    go_ret
    exact⟨by first|rfl|(simp [errW_none,errW_some]<;>rfl)|(simp [*,errW_none,errW_some]<;>rfl),by repeat(first|(with_reducible first|exact HB.out|apply z2q|apply z3q|apply z4q|refine z7q ?_ GE395.out)|exact HB.out)⟩
   ·rw [if_neg c4]at H
    have c4b0:decide (1≤a0_1)=false:=decide_eq_false c4
    clear c4
    obtain rfl:=Option.some.inj H
    go_enter Tryz.func78,Tryz.ntmps78
    go_wp2_with (first|((with_reducible refine z15q (N:=1) rfl ?_);refine z13q ?hg (N:=1) ?hd (cs:=#[.int .i64 a0_0,.int .i64 a0_1]) (t:=88) ?hr ?_;(case hd=>rfl);(case hg=>rfl);(case hr=>first|(go_simp;done)|(go_simp;rfl));intro gb395 hg w7 hbox hb;have n0_:=Aside0.mk (z5q (ibh HB.out) hb);have n1_:=Aside0.mk (hbox);have n2_:=Aside0.mk ((by rw [hg];exact(z6q (ibh HB.out)):w.heap.size≤gb395));have n3_:=Aside0.mk ((by rw [hg];exact(z6q (ibh HB.out)):w.heap.size≤gb395));clear HB;have HB:=n0_;have BK395:=n1_;have GW395:=n2_;have GE395:=n3_;clear n0_ n1_ n2_ n3_;clear hb hbox hg;obtain⟨hcz8_0,hcz8_1,hfz8_0,hfz8_1⟩:=cr2 (w:=w7) (g:=gb395) BK395.out))
    go_ret
    exact⟨by first|rfl|(simp [errW_none,errW_some]<;>rfl)|(simp [*,errW_none,errW_some]<;>rfl),by repeat(first|(with_reducible first|exact HB.out|apply z2q|apply z3q|apply z4q|refine z7q ?_ GE395.out)|exact HB.out)⟩
  ·rw [if_neg c3]at H
   have c3b0:decide (a0_0≤1000)=false:=decide_eq_false c3
   clear c3
   obtain rfl:=Option.some.inj H
   go_enter Tryz.func78,Tryz.ntmps78
   go_wp2_with (first|((with_reducible refine z15q (N:=1) rfl ?_);refine z13q ?hg (N:=1) ?hd (cs:=#[.int .i64 a0_0,.int .i64 a0_1]) (t:=88) ?hr ?_;(case hd=>rfl);(case hg=>rfl);(case hr=>first|(go_simp;done)|(go_simp;rfl));intro gb395 hg w9 hbox hb;have n0_:=Aside0.mk (z5q (ibh HB.out) hb);have n1_:=Aside0.mk (hbox);have n2_:=Aside0.mk ((by rw [hg];exact(z6q (ibh HB.out)):w.heap.size≤gb395));have n3_:=Aside0.mk ((by rw [hg];exact(z6q (ibh HB.out)):w.heap.size≤gb395));clear HB;have HB:=n0_;have BK395:=n1_;have GW395:=n2_;have GE395:=n3_;clear n0_ n1_ n2_ n3_;clear hb hbox hg;obtain⟨hcz10_0,hcz10_1,hfz10_0,hfz10_1⟩:=cr2 (w:=w9) (g:=gb395) BK395.out))
   go_ret
   exact⟨by first|rfl|(simp [errW_none,errW_some]<;>rfl)|(simp [*,errW_none,errW_some]<;>rfl),by repeat(first|(with_reducible first|exact HB.out|apply z2q|apply z3q|apply z4q|refine z7q ?_ GE395.out)|exact HB.out)⟩
 ·rw [if_neg c2]at H
  have c2b0:decide (1≤a0_0)=false:=decide_eq_false c2
  clear c2
  obtain rfl:=Option.some.inj H
  go_enter Tryz.func78,Tryz.ntmps78
  go_wp2_with (first|((with_reducible refine z15q (N:=1) rfl ?_);refine z13q ?hg (N:=1) ?hd (cs:=#[.int .i64 a0_0,.int .i64 a0_1]) (t:=88) ?hr ?_;(case hd=>rfl);(case hg=>rfl);(case hr=>first|(go_simp;done)|(go_simp;rfl));intro gb395 hg w11 hbox hb;have n0_:=Aside0.mk (z5q (ibh HB.out) hb);have n1_:=Aside0.mk (hbox);have n2_:=Aside0.mk ((by rw [hg];exact(z6q (ibh HB.out)):w.heap.size≤gb395));have n3_:=Aside0.mk ((by rw [hg];exact(z6q (ibh HB.out)):w.heap.size≤gb395));clear HB;have HB:=n0_;have BK395:=n1_;have GW395:=n2_;have GE395:=n3_;clear n0_ n1_ n2_ n3_;clear hb hbox hg;obtain⟨hcz12_0,hcz12_1,hfz12_0,hfz12_1⟩:=cr2 (w:=w11) (g:=gb395) BK395.out))
  go_ret
  exact⟨by first|rfl|(simp [errW_none,errW_some]<;>rfl)|(simp [*,errW_none,errW_some]<;>rfl),by repeat(first|(with_reducible first|exact HB.out|apply z2q|apply z3q|apply z4q|refine z7q ?_ GE395.out)|exact HB.out)⟩



/-! ### impl_GoodRef: function 49 -/

def impl_GoodRef.f (a0_0:Int) (a0_1:Int) (a0_2:Bool) (a0_3:Bool):Option (Bool):=(impl_Ref_place.f a0_0 a0_1 a0_2 a0_3).bind fun bt397=>((impl_place_good.f bt397.1 bt397.2).bind fun t399=>(some t399))

end Go.Proofs.YtegdpgpbdcediaaGreatDoor.PFnExactUsedNames
