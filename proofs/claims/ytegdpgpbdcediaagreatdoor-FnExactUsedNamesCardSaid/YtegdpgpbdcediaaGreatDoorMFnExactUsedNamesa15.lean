/- Functions of the program as Lean functions, and proofs that the Go code comes to their answers: for the law FnExactUsedNames; made out of the print by a program of mine (compact.py). No conditions but each theorem's own. -/
import Derived.Test.YtegdpgpbdcediaaGreatDoorMFnExactUsedNamesa0
namespace Go.Proofs.YtegdpgpbdcediaaGreatDoor.PFnExactUsedNames
open List (map_toArray map_cons map_nil length_drop length_take set_cons_zero set_cons_succ setIfInBounds_toArray)
open Go.RowKit Go.Proofs.YtegdpgpbdcediaaGreatDoorW.PrintWords Go.Proofs.YtegdpgpbdcediaaGreatDoorW.PrintLast Go.Proofs.YtegdpgpbdcediaaGreatDoorW.PrintMore
attribute [local go_sem] max2_int min2_int max_two min_two max_three min_three max_four min_four   -- for this text's walks alone
set_option linter.unusedVariables false
set_option linter.unusedSimpArgs false

attribute [local go_sem high] eqA47 eqA65
def laws_markText.l0:Nat→Int→ByteArray→Option (ByteArray)
 |0,_,_=>none
 |k+1,x0,x3=>if x0 > 0 then((some (([(wrap64 (48+(Int.tmod x0 10))) % 256]:List Int):List Int)).bind fun y486=>(if(strOfNums y486).size+x3.size≤9223372036854775807 then(laws_markText.l0 k (wrap64 (Int.tdiv x0 10)) ((strOfNums y486) ++ x3))else(none)))else(if 1+x3.size≤9223372036854775807 then(some ((⟨#[109]⟩:ByteArray) ++ x3))else(none))

def laws_markText.f (k:Nat) (a0:Int):Option (ByteArray):=if a0≤0 then(some (⟨#[109,48]⟩:ByteArray))else(laws_markText.l0 k a0 (⟨#[]⟩:ByteArray))

set_option maxHeartbeats 8000000 in
set_option maxRecDepth 100000 in
theorem laws_markText.calls (k:Nat) (a0:Int) (r:ByteArray) (w:World) (h:laws_markText.f k a0=some r):
  Calls Tryz.prog 42 #[.int .i64 a0] w fun e w'=>e= .returned (.string r)∧Below w.heap.size w w':=by
 have HB:=Aside0.mk (Below.refl w.heap.size w)
 have H:(if a0≤0 then(some (⟨#[109,48]⟩:ByteArray))else(laws_markText.l0 k a0 (⟨#[]⟩:ByteArray)))=some r:=h
 clear h
 by_cases c2:a0≤0
 ·rw [if_pos c2]at H
  have c2b0:decide (a0≤0)=true:=decide_eq_true c2
  clear c2
  obtain rfl:=Option.some.inj H
  go_enter Tryz.func42,Tryz.ntmps42
  go_wp2
  go_ret
  exact⟨by first|rfl|(simp [errW_none,errW_some]<;>rfl)|(simp [*,errW_none,errW_some]<;>rfl),by repeat(first|(with_reducible first|exact HB.out|apply z2q|apply z3q|apply z4q)|exact HB.out)⟩
 ·rw [if_neg c2]at H
  have c2b0:decide (a0≤0)=false:=decide_eq_false c2
  clear c2
  have H':=Aside0.mk H
  clear H
  go_enter Tryz.func42,Tryz.ntmps42
  go_wp2
  go_loopg [0,3] k (fun kq v0 v3 w'=>∃ (x0_1:Int) (x3_1:ByteArray),v0= .int .i64 x0_1∧v3= .string x3_1∧Aside0 (laws_markText.l0 kq x0_1 x3_1=some r)∧Aside0 (kq≤k)∧Aside0 (Below w.heap.size w w'))
  case atStart=>exact⟨(a0),((⟨#[]⟩:ByteArray)),(by first|rfl|(simp;done)|(simp [*];done)|(simp;unfold wrap64;omega)),(by first|rfl|(simp;done)|(simp [*];done)|(simp;unfold wrap64;omega)),H',⟨Nat.le_refl _⟩,⟨by repeat(first|(with_reducible first|exact HB.out|apply z2q|apply z3q|apply z4q)|exact HB.out)⟩⟩
  case round=>
   clear H'
   try clear c2
   try clear c2b0
   try clear p2
   obtain⟨x0_1,x3_1,rfl,rfl,HA,HK1,HB⟩:=hrel
   cases gk with
   |zero=>exact absurd HA.out (by simp [laws_markText.l0])
   |succ k1=>
    have H:=HA.out
    clear HA
    simp only [laws_markText.l0]at H
    by_cases c3:x0_1 > 0
    ·rw [if_pos c3]at H
     have c3b0:decide (0<x0_1)=true:=decide_eq_true c3
     clear c3
     obtain⟨y486,hy486,H⟩:=Option.bind_eq_some_iff.mp H
     replace hy486:=(Option.some.inj hy486).symm
     have Ny486:=Aside0.mk hy486
     clear hy486
     by_cases c4:(strOfNums y486).size+x3_1.size≤9223372036854775807
     ·rw [if_pos c4]at H
      have c4b0:=eq_true c4
      have c4b1:decide ((strOfNums y486).size+x3_1.size≤9223372036854775807)=true:=decide_eq_true c4
      try have c4b2:(9223372036854775807<(strOfNums y486).size+x3_1.size)=False:=eq_false (Nat.not_lt.2 c4)
      have H':=Aside0.mk H
      clear H
      go_wp2_with (first|((with_reducible refine z15q (N:=12) rfl ?_);refine Kd.R_lit (Kd.int .u8) _ 5 ?hg (N:=12) ?hd (xs:=([(wrap64 (48+(Int.tmod x0_1 10))) % 256]:List Int)) (inner:= [.int .u8 ((wrap64 (48+(Int.tmod x0_1 10))) % 256)]) (ok:=fun _=>True) (okp:=fun _=>True) ?hr ?hp (fun _ hk=>hk) trivial (Below.refl _ _) (Nat.le_refl _) (by simp) ?_;(case hd=>rfl);(case hg=>rfl);(case hr=>first|(go_simp;done)|(go_simp;rfl));(case hp=>exact(Reps.one (show Kd.M (Kd.int .u8) _ _ _ ((wrap64 (48+(Int.tmod x0_1 10))) % 256) [.int .u8 ((wrap64 (48+(Int.tmod x0_1 10))) % 256)]from rfl) (Reps.none _ _)));intro v487 w5 ho6 hb hg_ hnew_;clear hg_ hnew_;(first|rw [←Ny486.out]at ho6|(simp only [Int.reduceToNat]at ho6;rw [←Ny486.out]at ho6));have n0_:=Aside0.mk (Kd.R_lower ho6 (z6q (ibh HB.out)));have n1_:=Aside0.mk (z5q (ibh HB.out) hb);clear HB;have HO488:=n0_;have HB:=n1_;clear n0_ n1_;clear hb ho6;have hcv7:=own_string (P:=Tryz.prog) Tryz.underlying116 Tryz.underlying5 Tryz.underlying9 (Kd.own_of_R HO488.out)))
      go_roundg k1
      case measure=>have:=HK1.out;omega
      case rel=>exact⟨(wrap64 (Int.tdiv x0_1 10)),((strOfNums y486) ++ x3_1),(by first|rfl|(simp;done)|(simp [*];done)|(simp;unfold wrap64;omega)),(by first|rfl|(simp;done)|(simp [*];done)|(simp;unfold wrap64;omega)),H',⟨by have:=HK1.out;omega⟩,⟨by repeat(first|(with_reducible first|exact HB.out|apply z2q|apply z3q|apply z4q)|exact HB.out)⟩⟩
     ·rw [if_neg c4]at H
      exact absurd H (by simp)
    ·rw [if_neg c3]at H
     have c3b0:decide (0<x0_1)=false:=decide_eq_false c3
     clear c3
     by_cases c8:1+x3_1.size≤9223372036854775807
     ·rw [if_pos c8]at H
      have c8b0:=eq_true c8
      have c8b1:decide (1+x3_1.size≤9223372036854775807)=true:=decide_eq_true c8
      try have c8b2:(9223372036854775807<1+x3_1.size)=False:=eq_false (Nat.not_lt.2 c8)
      obtain rfl:=Option.some.inj H
      go_wp2
      go_ret
      exact⟨by first|rfl|(simp [errW_none,errW_some]<;>rfl)|(simp [*,errW_none,errW_some]<;>rfl),by repeat(first|(with_reducible first|exact HB.out|apply z2q|apply z3q|apply z4q)|exact HB.out)⟩
     ·rw [if_neg c8]at H
      exact absurd H (by simp)



/-! ### laws_markNodeS: function 17 -/

def laws_markNodeS.l0:Nat→List (S67)→Int→Int→Option (Int×(List (S67)))
 |0,_,_,_=>none
 |k+1,x0,x1,x5=>if x5<(x0.length:Int)then(if 0≤x5 then((some (x0.set (x5:Int).toNat (⟨x1,(rd_T67 x0 x5).f1,(⟨(rd_T67 x0 x5).f2.f0,(rd_T67 x0 x5).f2.f1,(rd_T67 x0 x5).f2.f2⟩:S65),(⟨(rd_T67 x0 x5).f3.f0,(rd_T67 x0 x5).f3.f1,(rd_T67 x0 x5).f3.f2,(rd_T67 x0 x5).f3.f3⟩:S47),(⟨(rd_T67 x0 x5).f4.f0,(rd_T67 x0 x5).f4.f1,(rd_T67 x0 x5).f4.f2,(rd_T67 x0 x5).f4.f3⟩:S47),(rd_T67 x0 x5).f5⟩:S67):List (S67))).bind fun y489=>((laws_markText.f k (wrap64 (x1+1))).bind fun t490=>((some (y489.set (x5:Int).toNat (⟨(rd_T67 y489 x5).f0,t490,(⟨(rd_T67 y489 x5).f2.f0,(rd_T67 y489 x5).f2.f1,(rd_T67 y489 x5).f2.f2⟩:S65),(⟨(rd_T67 y489 x5).f3.f0,(rd_T67 y489 x5).f3.f1,(rd_T67 y489 x5).f3.f2,(rd_T67 y489 x5).f3.f3⟩:S47),(⟨(rd_T67 y489 x5).f4.f0,(rd_T67 y489 x5).f4.f1,(rd_T67 y489 x5).f4.f2,(rd_T67 y489 x5).f4.f3⟩:S47),(rd_T67 y489 x5).f5⟩:S67):List (S67))).bind fun y491=>((some (y491.set (x5:Int).toNat (⟨(rd_T67 y491 x5).f0,(rd_T67 y491 x5).f1,(⟨((Int.tmod (wrap64 ((wrap64 (x1+1))+1)) 3)==0),(rd_T67 y491 x5).f2.f1,(rd_T67 y491 x5).f2.f2⟩:S65),(⟨(rd_T67 y491 x5).f3.f0,(rd_T67 y491 x5).f3.f1,(rd_T67 y491 x5).f3.f2,(rd_T67 y491 x5).f3.f3⟩:S47),(⟨(rd_T67 y491 x5).f4.f0,(rd_T67 y491 x5).f4.f1,(rd_T67 y491 x5).f4.f2,(rd_T67 y491 x5).f4.f3⟩:S47),(rd_T67 y491 x5).f5⟩:S67):List (S67))).bind fun y492=>((some (y492.set (x5:Int).toNat (⟨(rd_T67 y492 x5).f0,(rd_T67 y492 x5).f1,(⟨(rd_T67 y492 x5).f2.f0,wrap64 ((wrap64 ((wrap64 (x1+1))+1))+1),(rd_T67 y492 x5).f2.f2⟩:S65),(⟨(rd_T67 y492 x5).f3.f0,(rd_T67 y492 x5).f3.f1,(rd_T67 y492 x5).f3.f2,(rd_T67 y492 x5).f3.f3⟩:S47),(⟨(rd_T67 y492 x5).f4.f0,(rd_T67 y492 x5).f4.f1,(rd_T67 y492 x5).f4.f2,(rd_T67 y492 x5).f4.f3⟩:S47),(rd_T67 y492 x5).f5⟩:S67):List (S67))).bind fun y493=>((some (y493.set (x5:Int).toNat (⟨(rd_T67 y493 x5).f0,(rd_T67 y493 x5).f1,(⟨(rd_T67 y493 x5).f2.f0,(rd_T67 y493 x5).f2.f1,wrap64 ((wrap64 ((wrap64 ((wrap64 (x1+1))+1))+1))+1)⟩:S65),(⟨(rd_T67 y493 x5).f3.f0,(rd_T67 y493 x5).f3.f1,(rd_T67 y493 x5).f3.f2,(rd_T67 y493 x5).f3.f3⟩:S47),(⟨(rd_T67 y493 x5).f4.f0,(rd_T67 y493 x5).f4.f1,(rd_T67 y493 x5).f4.f2,(rd_T67 y493 x5).f4.f3⟩:S47),(rd_T67 y493 x5).f5⟩:S67):List (S67))).bind fun y494=>((some (y494.set (x5:Int).toNat (⟨(rd_T67 y494 x5).f0,(rd_T67 y494 x5).f1,(⟨(rd_T67 y494 x5).f2.f0,(rd_T67 y494 x5).f2.f1,(rd_T67 y494 x5).f2.f2⟩:S65),(⟨wrap64 ((wrap64 ((wrap64 ((wrap64 ((wrap64 (x1+1))+1))+1))+1))+1),(rd_T67 y494 x5).f3.f1,(rd_T67 y494 x5).f3.f2,(rd_T67 y494 x5).f3.f3⟩:S47),(⟨(rd_T67 y494 x5).f4.f0,(rd_T67 y494 x5).f4.f1,(rd_T67 y494 x5).f4.f2,(rd_T67 y494 x5).f4.f3⟩:S47),(rd_T67 y494 x5).f5⟩:S67):List (S67))).bind fun y495=>((some (y495.set (x5:Int).toNat (⟨(rd_T67 y495 x5).f0,(rd_T67 y495 x5).f1,(⟨(rd_T67 y495 x5).f2.f0,(rd_T67 y495 x5).f2.f1,(rd_T67 y495 x5).f2.f2⟩:S65),(⟨(rd_T67 y495 x5).f3.f0,wrap64 ((wrap64 ((wrap64 ((wrap64 ((wrap64 ((wrap64 (x1+1))+1))+1))+1))+1))+1),(rd_T67 y495 x5).f3.f2,(rd_T67 y495 x5).f3.f3⟩:S47),(⟨(rd_T67 y495 x5).f4.f0,(rd_T67 y495 x5).f4.f1,(rd_T67 y495 x5).f4.f2,(rd_T67 y495 x5).f4.f3⟩:S47),(rd_T67 y495 x5).f5⟩:S67):List (S67))).bind fun y496=>((some (y496.set (x5:Int).toNat (⟨(rd_T67 y496 x5).f0,(rd_T67 y496 x5).f1,(⟨(rd_T67 y496 x5).f2.f0,(rd_T67 y496 x5).f2.f1,(rd_T67 y496 x5).f2.f2⟩:S65),(⟨(rd_T67 y496 x5).f3.f0,(rd_T67 y496 x5).f3.f1,((Int.tmod (wrap64 ((wrap64 ((wrap64 ((wrap64 ((wrap64 ((wrap64 ((wrap64 (x1+1))+1))+1))+1))+1))+1))+1)) 3)==0),(rd_T67 y496 x5).f3.f3⟩:S47),(⟨(rd_T67 y496 x5).f4.f0,(rd_T67 y496 x5).f4.f1,(rd_T67 y496 x5).f4.f2,(rd_T67 y496 x5).f4.f3⟩:S47),(rd_T67 y496 x5).f5⟩:S67):List (S67))).bind fun y497=>((some (y497.set (x5:Int).toNat (⟨(rd_T67 y497 x5).f0,(rd_T67 y497 x5).f1,(⟨(rd_T67 y497 x5).f2.f0,(rd_T67 y497 x5).f2.f1,(rd_T67 y497 x5).f2.f2⟩:S65),(⟨(rd_T67 y497 x5).f3.f0,(rd_T67 y497 x5).f3.f1,(rd_T67 y497 x5).f3.f2,((Int.tmod (wrap64 ((wrap64 ((wrap64 ((wrap64 ((wrap64 ((wrap64 ((wrap64 ((wrap64 (x1+1))+1))+1))+1))+1))+1))+1))+1)) 3)==0)⟩:S47),(⟨(rd_T67 y497 x5).f4.f0,(rd_T67 y497 x5).f4.f1,(rd_T67 y497 x5).f4.f2,(rd_T67 y497 x5).f4.f3⟩:S47),(rd_T67 y497 x5).f5⟩:S67):List (S67))).bind fun y498=>((some (y498.set (x5:Int).toNat (⟨(rd_T67 y498 x5).f0,(rd_T67 y498 x5).f1,(⟨(rd_T67 y498 x5).f2.f0,(rd_T67 y498 x5).f2.f1,(rd_T67 y498 x5).f2.f2⟩:S65),(⟨(rd_T67 y498 x5).f3.f0,(rd_T67 y498 x5).f3.f1,(rd_T67 y498 x5).f3.f2,(rd_T67 y498 x5).f3.f3⟩:S47),(⟨wrap64 ((wrap64 ((wrap64 ((wrap64 ((wrap64 ((wrap64 ((wrap64 ((wrap64 ((wrap64 (x1+1))+1))+1))+1))+1))+1))+1))+1))+1),(rd_T67 y498 x5).f4.f1,(rd_T67 y498 x5).f4.f2,(rd_T67 y498 x5).f4.f3⟩:S47),(rd_T67 y498 x5).f5⟩:S67):List (S67))).bind fun y499=>((some (y499.set (x5:Int).toNat (⟨(rd_T67 y499 x5).f0,(rd_T67 y499 x5).f1,(⟨(rd_T67 y499 x5).f2.f0,(rd_T67 y499 x5).f2.f1,(rd_T67 y499 x5).f2.f2⟩:S65),(⟨(rd_T67 y499 x5).f3.f0,(rd_T67 y499 x5).f3.f1,(rd_T67 y499 x5).f3.f2,(rd_T67 y499 x5).f3.f3⟩:S47),(⟨(rd_T67 y499 x5).f4.f0,wrap64 ((wrap64 ((wrap64 ((wrap64 ((wrap64 ((wrap64 ((wrap64 ((wrap64 ((wrap64 ((wrap64 (x1+1))+1))+1))+1))+1))+1))+1))+1))+1))+1),(rd_T67 y499 x5).f4.f2,(rd_T67 y499 x5).f4.f3⟩:S47),(rd_T67 y499 x5).f5⟩:S67):List (S67))).bind fun y500=>((some (y500.set (x5:Int).toNat (⟨(rd_T67 y500 x5).f0,(rd_T67 y500 x5).f1,(⟨(rd_T67 y500 x5).f2.f0,(rd_T67 y500 x5).f2.f1,(rd_T67 y500 x5).f2.f2⟩:S65),(⟨(rd_T67 y500 x5).f3.f0,(rd_T67 y500 x5).f3.f1,(rd_T67 y500 x5).f3.f2,(rd_T67 y500 x5).f3.f3⟩:S47),(⟨(rd_T67 y500 x5).f4.f0,(rd_T67 y500 x5).f4.f1,((Int.tmod (wrap64 ((wrap64 ((wrap64 ((wrap64 ((wrap64 ((wrap64 ((wrap64 ((wrap64 ((wrap64 ((wrap64 ((wrap64 (x1+1))+1))+1))+1))+1))+1))+1))+1))+1))+1))+1)) 3)==0),(rd_T67 y500 x5).f4.f3⟩:S47),(rd_T67 y500 x5).f5⟩:S67):List (S67))).bind fun y501=>((some (y501.set (x5:Int).toNat (⟨(rd_T67 y501 x5).f0,(rd_T67 y501 x5).f1,(⟨(rd_T67 y501 x5).f2.f0,(rd_T67 y501 x5).f2.f1,(rd_T67 y501 x5).f2.f2⟩:S65),(⟨(rd_T67 y501 x5).f3.f0,(rd_T67 y501 x5).f3.f1,(rd_T67 y501 x5).f3.f2,(rd_T67 y501 x5).f3.f3⟩:S47),(⟨(rd_T67 y501 x5).f4.f0,(rd_T67 y501 x5).f4.f1,(rd_T67 y501 x5).f4.f2,((Int.tmod (wrap64 ((wrap64 ((wrap64 ((wrap64 ((wrap64 ((wrap64 ((wrap64 ((wrap64 ((wrap64 ((wrap64 ((wrap64 ((wrap64 (x1+1))+1))+1))+1))+1))+1))+1))+1))+1))+1))+1))+1)) 3)==0)⟩:S47),(rd_T67 y501 x5).f5⟩:S67):List (S67))).bind fun y502=>(laws_markNodeS.l0 k (y502.set (x5:Int).toNat (⟨(rd_T67 y502 x5).f0,(rd_T67 y502 x5).f1,(⟨(rd_T67 y502 x5).f2.f0,(rd_T67 y502 x5).f2.f1,(rd_T67 y502 x5).f2.f2⟩:S65),(⟨(rd_T67 y502 x5).f3.f0,(rd_T67 y502 x5).f3.f1,(rd_T67 y502 x5).f3.f2,(rd_T67 y502 x5).f3.f3⟩:S47),(⟨(rd_T67 y502 x5).f4.f0,(rd_T67 y502 x5).f4.f1,(rd_T67 y502 x5).f4.f2,(rd_T67 y502 x5).f4.f3⟩:S47),wrap64 ((wrap64 ((wrap64 ((wrap64 ((wrap64 ((wrap64 ((wrap64 ((wrap64 ((wrap64 ((wrap64 ((wrap64 ((wrap64 ((wrap64 (x1+1))+1))+1))+1))+1))+1))+1))+1))+1))+1))+1))+1))+1)⟩:S67)) (wrap64 ((wrap64 ((wrap64 ((wrap64 ((wrap64 ((wrap64 ((wrap64 ((wrap64 ((wrap64 ((wrap64 ((wrap64 ((wrap64 ((wrap64 ((wrap64 (x1+1))+1))+1))+1))+1))+1))+1))+1))+1))+1))+1))+1))+1))+1)) (wrap64 (x5+1)))))))))))))))))else(none))else(some (x1,x0))

def laws_markNodeS.f (k:Nat) (l0:List (S67)) (a1:Int):Option (Int×(List (S67))):=laws_markNodeS.l0 k l0 a1 0

end Go.Proofs.YtegdpgpbdcediaaGreatDoor.PFnExactUsedNames
