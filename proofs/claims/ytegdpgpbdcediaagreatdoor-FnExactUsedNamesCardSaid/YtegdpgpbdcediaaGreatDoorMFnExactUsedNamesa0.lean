/- Functions of the program as Lean functions, and proofs that the Go code comes to their answers: for the law FnExactUsedNames; made out of the print by a program of mine (compact.py). No conditions but each theorem's own. -/
import Derived.Test.YtegdpgpbdcediaaGreatDoorProg
import Derived.Below
import Derived.Deep.Draws
import Derived.Deep.AppendLies
import Derived.Maps.AppendAt
import Derived.OwnWalk
import Derived.Laws.BytesArg
import Derived.Laws.MakeOwn
import Derived.Laws.OwnMore
import Derived.Deep.OwnRows
import Derived.Tactics
import Derived.Lib.ConvBytes
import Derived.Laws.Slices
import Derived.WalkKit
import Derived.KernelRfl
import Derived.RowKit3
import Derived.Deep.LoopGhost
import Derived.Deep.QuietTactic
import Derived.BigQuiet
import Derived.WideLaws
import Derived.Deep.DeepCutAuto
import Derived.Deep.CutBlock
import Derived.Deep.RegionHeld3
import Derived.Laws.Rows
import Derived.Lib.AppendStr
import Derived.ArgAppend
import Derived.Laws.IdiomCopy
import Derived.OrdersHeld
import Derived.Laws.BitsLemmas
import Derived.RowKit
import Derived.Test.YtegdpgpbdcediaaGreatDoorVFnExactUsedNames
import Derived.IntWalk
import Derived.Lib.AtoiTie
import Derived.Lib.Hide
import Derived.Lib.ItoaLen
import Derived.Maps.OwnSet
import Derived.OwnWalk
import Derived.Shelf.Strconv.ErrVarAll
import Derived.Shelf.Strconv.Itoa3
import Derived.Shelf.Strings.Prefix
import Derived.StringKeys
namespace Go.Proofs.YtegdpgpbdcediaaGreatDoor.PFnExactUsedNames
open List (map_toArray map_cons map_nil length_drop length_take set_cons_zero set_cons_succ setIfInBounds_toArray)
open Go.RowKit Go.Proofs.YtegdpgpbdcediaaGreatDoorW.PrintWords Go.Proofs.YtegdpgpbdcediaaGreatDoorW.PrintLast Go.Proofs.YtegdpgpbdcediaaGreatDoorW.PrintMore
attribute [local go_sem] max2_int min2_int max_two min_two max_three min_three max_four min_four   -- for this text's walks alone
set_option linter.unusedVariables false
set_option linter.unusedSimpArgs false




def errW:Option Int→Value
 |none=> .nilIface
 |some c=> .iface 153 (.int .i64 c)
theorem errW_none:errW none= .nilIface:=rfl
theorem errW_some (c:Int):errW (some c)= .iface 153 (.int .i64 c):=rfl

theorem info9:(Tryz.prog.info? 9).map (fun i=>(i.zero,i.size,i.bytes))=some (some (.string ⟨#[]⟩),1,16):=by kernel_rfl
theorem info67:(Tryz.prog.info? 67).map (fun i=>(i.zero,i.size,i.bytes))=some (some (.agg #[(.int .i64 0),(.string ⟨#[]⟩),(.bool false),(.int .i64 0),(.int .i64 0),(.int .i64 0),(.int .i64 0),(.bool false),(.bool false),(.int .i64 0),(.int .i64 0),(.bool false),(.bool false),(.int .i64 0)]),14,104):=by kernel_rfl
theorem info70:(Tryz.prog.info? 70).map (fun i=>(i.zero,i.size,i.bytes))=some (some (.agg #[(.int .i64 0),(.string ⟨#[]⟩),(.bool false),(.int .i64 0),(.int .i64 0),(.int .i64 0),(.int .i64 0),(.bool false),(.bool false),(.int .i64 0),(.int .i64 0),(.bool false),(.bool false),(.int .i64 0),(.slice none 0 0)]),15,128):=by kernel_rfl
-- the values' own types
/-! #### struct type 62 -/
structure S62 where
 f0:Bool
 f1:Int
 f2:Int
def z62:S62:=⟨false,(0:Int),(0:Int)⟩
def k62:Kd S62:=Kd.iso (Kd.pair Kd.bool (Kd.pair (Kd.int .i64) (Kd.int .i64))) (fun x:S62=>(x.f0,x.f1,x.f2))
theorem k62_open {w:World} {x:S62} {cs:List Value} (h:k62.K w x cs):cs= [.bool x.f0,.int .i64 x.f1,.int .i64 x.f2]:=by
 obtain⟨_,_,rfl,rfl,⟨_,_,rfl,rfl,rfl⟩⟩:=h
 exact rfl
def rd_T62 (xs:List S62) (i:Int):S62:=xs.getD i.toNat z62
/-! #### struct type 41 -/
structure S41 where
 f0:Int
 f1:Int
 f2:Bool
 f3:Bool
def z41:S41:=⟨(0:Int),(0:Int),false,false⟩
def k41:Kd S41:=Kd.iso (Kd.pair (Kd.int .i64) (Kd.pair (Kd.int .i64) (Kd.pair Kd.bool Kd.bool))) (fun x:S41=>(x.f0,x.f1,x.f2,x.f3))
theorem k41_open {w:World} {x:S41} {cs:List Value} (h:k41.K w x cs):cs= [.int .i64 x.f0,.int .i64 x.f1,.bool x.f2,.bool x.f3]:=by
 obtain⟨_,_,rfl,rfl,⟨_,_,rfl,rfl,⟨_,_,rfl,rfl,rfl⟩⟩⟩:=h
 exact rfl
def rd_T41 (xs:List S41) (i:Int):S41:=xs.getD i.toNat z41
/-! #### struct type 64 -/
structure S64 where
 f0:Int
 f1:ByteArray
 f2:S62
 f3:S41
 f4:S41
 f5:Int
def z64:S64:=⟨(0:Int),(⟨#[]⟩:ByteArray),z62,z41,z41,(0:Int)⟩
def k64:Kd S64:=Kd.iso (Kd.pair (Kd.int .i64) (Kd.pair Kd.string (Kd.pair k62 (Kd.pair k41 (Kd.pair k41 (Kd.int .i64)))))) (fun x:S64=>(x.f0,x.f1,x.f2,x.f3,x.f4,x.f5))
theorem k64_open {w:World} {x:S64} {cs:List Value} (h:k64.K w x cs):cs= [.int .i64 x.f0,.string x.f1,.bool x.f2.f0,.int .i64 x.f2.f1,.int .i64 x.f2.f2,.int .i64 x.f3.f0,.int .i64 x.f3.f1,.bool x.f3.f2,.bool x.f3.f3,.int .i64 x.f4.f0,.int .i64 x.f4.f1,.bool x.f4.f2,.bool x.f4.f3,.int .i64 x.f5]:=by
 obtain⟨_,_,rfl,rfl,⟨_,_,rfl,rfl,⟨_,_,rfl,s2,⟨_,_,rfl,s5,⟨_,_,rfl,s9,rfl⟩⟩⟩⟩⟩:=h
 obtain rfl:=k62_open s2
 obtain rfl:=k41_open s5
 obtain rfl:=k41_open s9
 exact rfl
def rd_T64 (xs:List S64) (i:Int):S64:=xs.getD i.toNat z64
theorem at_T64 {w:World} {A:Option Addr} {n:Nat} {xs:List S64} (h:Kd.C k64 w A n xs) (i:Int) (h0:0≤i) (h1:i<n):∃ ad,A=some ad∧w.cell? (ad.add (i.toNat*14))=some (.int .i64 (rd_T64 xs i).f0)∧w.cell? ⟨(ad.add (i.toNat*14)).block,(ad.add (i.toNat*14)).off+1,none⟩=some (.string (rd_T64 xs i).f1)∧w.cell? ⟨(ad.add (i.toNat*14)).block,(ad.add (i.toNat*14)).off+2,none⟩=some (.bool (rd_T64 xs i).f2.f0)∧w.cell? ⟨(ad.add (i.toNat*14)).block,(ad.add (i.toNat*14)).off+3,none⟩=some (.int .i64 (rd_T64 xs i).f2.f1)∧w.cell? ⟨(ad.add (i.toNat*14)).block,(ad.add (i.toNat*14)).off+4,none⟩=some (.int .i64 (rd_T64 xs i).f2.f2)∧w.cell? ⟨(ad.add (i.toNat*14)).block,(ad.add (i.toNat*14)).off+5,none⟩=some (.int .i64 (rd_T64 xs i).f3.f0)∧w.cell? ⟨(ad.add (i.toNat*14)).block,(ad.add (i.toNat*14)).off+6,none⟩=some (.int .i64 (rd_T64 xs i).f3.f1)∧w.cell? ⟨(ad.add (i.toNat*14)).block,(ad.add (i.toNat*14)).off+7,none⟩=some (.bool (rd_T64 xs i).f3.f2)∧w.cell? ⟨(ad.add (i.toNat*14)).block,(ad.add (i.toNat*14)).off+8,none⟩=some (.bool (rd_T64 xs i).f3.f3)∧w.cell? ⟨(ad.add (i.toNat*14)).block,(ad.add (i.toNat*14)).off+9,none⟩=some (.int .i64 (rd_T64 xs i).f4.f0)∧w.cell? ⟨(ad.add (i.toNat*14)).block,(ad.add (i.toNat*14)).off+10,none⟩=some (.int .i64 (rd_T64 xs i).f4.f1)∧w.cell? ⟨(ad.add (i.toNat*14)).block,(ad.add (i.toNat*14)).off+11,none⟩=some (.bool (rd_T64 xs i).f4.f2)∧w.cell? ⟨(ad.add (i.toNat*14)).block,(ad.add (i.toNat*14)).off+12,none⟩=some (.bool (rd_T64 xs i).f4.f3)∧w.cell? ⟨(ad.add (i.toNat*14)).block,(ad.add (i.toNat*14)).off+13,none⟩=some (.int .i64 (rd_T64 xs i).f5):=by
 obtain⟨ad,c,e,_,hK,hc0⟩:=Kd.C_get h z64 i h0 h1
 have hc:∀ j u,c[j]? =some u→w.cell? (ad.add (i.toNat*14+j))=some u:=hc0
 obtain rfl:=k64_open hK
 exact⟨ad,e,hc 0 _ rfl,by rw [←z18q _ _ 1 (by omega)];exact hc 1 _ rfl,by rw [←z18q _ _ 2 (by omega)];exact hc 2 _ rfl,by rw [←z18q _ _ 3 (by omega)];exact hc 3 _ rfl,by rw [←z18q _ _ 4 (by omega)];exact hc 4 _ rfl,by rw [←z18q _ _ 5 (by omega)];exact hc 5 _ rfl,by rw [←z18q _ _ 6 (by omega)];exact hc 6 _ rfl,by rw [←z18q _ _ 7 (by omega)];exact hc 7 _ rfl,by rw [←z18q _ _ 8 (by omega)];exact hc 8 _ rfl,by rw [←z18q _ _ 9 (by omega)];exact hc 9 _ rfl,by rw [←z18q _ _ 10 (by omega)];exact hc 10 _ rfl,by rw [←z18q _ _ 11 (by omega)];exact hc 11 _ rfl,by rw [←z18q _ _ 12 (by omega)];exact hc 12 _ rfl,by rw [←z18q _ _ 13 (by omega)];exact hc 13 _ rfl⟩

/-! #### struct type 65 -/
structure S65 where
 f0:Bool
 f1:Int
 f2:Int
def z65:S65:=⟨false,(0:Int),(0:Int)⟩
def k65:Kd S65:=Kd.iso (Kd.pair Kd.bool (Kd.pair (Kd.int .i64) (Kd.int .i64))) (fun x:S65=>(x.f0,x.f1,x.f2))
theorem k65_open {w:World} {x:S65} {cs:List Value} (h:k65.K w x cs):cs= [.bool x.f0,.int .i64 x.f1,.int .i64 x.f2]:=by
 obtain⟨_,_,rfl,rfl,⟨_,_,rfl,rfl,rfl⟩⟩:=h
 exact rfl
theorem k65_openM {w:World} {base:Nat} {ok:Nat→Prop} {x:S65} {cs:List Value} (h:k65.M w base ok x cs):cs= [.bool x.f0,.int .i64 x.f1,.int .i64 x.f2]:=by
 obtain⟨_,_,rfl,rfl,⟨_,_,rfl,rfl,rfl⟩⟩:=h
 exact rfl
theorem k65_mkM (w:World) (base:Nat) (ok:Nat→Prop) (x:S65)  :k65.M w base ok x [.bool x.f0,.int .i64 x.f1,.int .i64 x.f2]:=⟨[.bool x.f0], [.int .i64 x.f1,.int .i64 x.f2],rfl,rfl,⟨[.int .i64 x.f1], [.int .i64 x.f2],rfl,rfl,rfl⟩⟩
def rd_T65 (xs:List S65) (i:Int):S65:=xs.getD i.toNat z65
/-! #### struct type 47 -/
structure S47 where
 f0:Int
 f1:Int
 f2:Bool
 f3:Bool
def z47:S47:=⟨(0:Int),(0:Int),false,false⟩
def k47:Kd S47:=Kd.iso (Kd.pair (Kd.int .i64) (Kd.pair (Kd.int .i64) (Kd.pair Kd.bool Kd.bool))) (fun x:S47=>(x.f0,x.f1,x.f2,x.f3))
theorem k47_open {w:World} {x:S47} {cs:List Value} (h:k47.K w x cs):cs= [.int .i64 x.f0,.int .i64 x.f1,.bool x.f2,.bool x.f3]:=by
 obtain⟨_,_,rfl,rfl,⟨_,_,rfl,rfl,⟨_,_,rfl,rfl,rfl⟩⟩⟩:=h
 exact rfl
theorem k47_openM {w:World} {base:Nat} {ok:Nat→Prop} {x:S47} {cs:List Value} (h:k47.M w base ok x cs):cs= [.int .i64 x.f0,.int .i64 x.f1,.bool x.f2,.bool x.f3]:=by
 obtain⟨_,_,rfl,rfl,⟨_,_,rfl,rfl,⟨_,_,rfl,rfl,rfl⟩⟩⟩:=h
 exact rfl
theorem k47_mkM (w:World) (base:Nat) (ok:Nat→Prop) (x:S47)  :k47.M w base ok x [.int .i64 x.f0,.int .i64 x.f1,.bool x.f2,.bool x.f3]:=⟨[.int .i64 x.f0], [.int .i64 x.f1,.bool x.f2,.bool x.f3],rfl,rfl,⟨[.int .i64 x.f1], [.bool x.f2,.bool x.f3],rfl,rfl,⟨[.bool x.f2], [.bool x.f3],rfl,rfl,rfl⟩⟩⟩
def rd_T47 (xs:List S47) (i:Int):S47:=xs.getD i.toNat z47
/-! #### struct type 67 -/
structure S67 where
 f0:Int
 f1:ByteArray
 f2:S65
 f3:S47
 f4:S47
 f5:Int
def z67:S67:=⟨(0:Int),(⟨#[]⟩:ByteArray),z65,z47,z47,(0:Int)⟩
def k67:Kd S67:=Kd.iso (Kd.pair (Kd.int .i64) (Kd.pair Kd.string (Kd.pair k65 (Kd.pair k47 (Kd.pair k47 (Kd.int .i64)))))) (fun x:S67=>(x.f0,x.f1,x.f2,x.f3,x.f4,x.f5))
theorem k67_open {w:World} {x:S67} {cs:List Value} (h:k67.K w x cs):cs= [.int .i64 x.f0,.string x.f1,.bool x.f2.f0,.int .i64 x.f2.f1,.int .i64 x.f2.f2,.int .i64 x.f3.f0,.int .i64 x.f3.f1,.bool x.f3.f2,.bool x.f3.f3,.int .i64 x.f4.f0,.int .i64 x.f4.f1,.bool x.f4.f2,.bool x.f4.f3,.int .i64 x.f5]:=by
 obtain⟨_,_,rfl,rfl,⟨_,_,rfl,rfl,⟨_,_,rfl,s2,⟨_,_,rfl,s5,⟨_,_,rfl,s9,rfl⟩⟩⟩⟩⟩:=h
 obtain rfl:=k65_open s2
 obtain rfl:=k47_open s5
 obtain rfl:=k47_open s9
 exact rfl
theorem k67_openM {w:World} {base:Nat} {ok:Nat→Prop} {x:S67} {cs:List Value} (h:k67.M w base ok x cs):cs= [.int .i64 x.f0,.string x.f1,.bool x.f2.f0,.int .i64 x.f2.f1,.int .i64 x.f2.f2,.int .i64 x.f3.f0,.int .i64 x.f3.f1,.bool x.f3.f2,.bool x.f3.f3,.int .i64 x.f4.f0,.int .i64 x.f4.f1,.bool x.f4.f2,.bool x.f4.f3,.int .i64 x.f5]:=by
 obtain⟨_,_,rfl,rfl,⟨_,_,rfl,rfl,⟨_,_,rfl,s2,⟨_,_,rfl,s5,⟨_,_,rfl,s9,rfl⟩⟩⟩⟩⟩:=h
 obtain rfl:=k65_openM s2
 obtain rfl:=k47_openM s5
 obtain rfl:=k47_openM s9
 exact rfl
theorem k67_mkM (w:World) (base:Nat) (ok:Nat→Prop) (x:S67)  :k67.M w base ok x [.int .i64 x.f0,.string x.f1,.bool x.f2.f0,.int .i64 x.f2.f1,.int .i64 x.f2.f2,.int .i64 x.f3.f0,.int .i64 x.f3.f1,.bool x.f3.f2,.bool x.f3.f3,.int .i64 x.f4.f0,.int .i64 x.f4.f1,.bool x.f4.f2,.bool x.f4.f3,.int .i64 x.f5]:=⟨[.int .i64 x.f0], [.string x.f1,.bool x.f2.f0,.int .i64 x.f2.f1,.int .i64 x.f2.f2,.int .i64 x.f3.f0,.int .i64 x.f3.f1,.bool x.f3.f2,.bool x.f3.f3,.int .i64 x.f4.f0,.int .i64 x.f4.f1,.bool x.f4.f2,.bool x.f4.f3,.int .i64 x.f5],rfl,rfl,⟨[.string x.f1], [.bool x.f2.f0,.int .i64 x.f2.f1,.int .i64 x.f2.f2,.int .i64 x.f3.f0,.int .i64 x.f3.f1,.bool x.f3.f2,.bool x.f3.f3,.int .i64 x.f4.f0,.int .i64 x.f4.f1,.bool x.f4.f2,.bool x.f4.f3,.int .i64 x.f5],rfl,rfl,⟨[.bool x.f2.f0,.int .i64 x.f2.f1,.int .i64 x.f2.f2], [.int .i64 x.f3.f0,.int .i64 x.f3.f1,.bool x.f3.f2,.bool x.f3.f3,.int .i64 x.f4.f0,.int .i64 x.f4.f1,.bool x.f4.f2,.bool x.f4.f3,.int .i64 x.f5],rfl,(k65_mkM w base ok x.f2),⟨[.int .i64 x.f3.f0,.int .i64 x.f3.f1,.bool x.f3.f2,.bool x.f3.f3], [.int .i64 x.f4.f0,.int .i64 x.f4.f1,.bool x.f4.f2,.bool x.f4.f3,.int .i64 x.f5],rfl,(k47_mkM w base ok x.f3),⟨[.int .i64 x.f4.f0,.int .i64 x.f4.f1,.bool x.f4.f2,.bool x.f4.f3], [.int .i64 x.f5],rfl,(k47_mkM w base ok x.f4),rfl⟩⟩⟩⟩⟩
def rd_T67 (xs:List S67) (i:Int):S67:=xs.getD i.toNat z67
theorem at_T67 {w:World} {A:Option Addr} {n:Nat} {xs:List S67} (h:Kd.C k67 w A n xs) (i:Int) (h0:0≤i) (h1:i<n):∃ ad,A=some ad∧w.cell? (ad.add (i.toNat*14))=some (.int .i64 (rd_T67 xs i).f0)∧w.cell? ⟨(ad.add (i.toNat*14)).block,(ad.add (i.toNat*14)).off+1,none⟩=some (.string (rd_T67 xs i).f1)∧w.cell? ⟨(ad.add (i.toNat*14)).block,(ad.add (i.toNat*14)).off+2,none⟩=some (.bool (rd_T67 xs i).f2.f0)∧w.cell? ⟨(ad.add (i.toNat*14)).block,(ad.add (i.toNat*14)).off+3,none⟩=some (.int .i64 (rd_T67 xs i).f2.f1)∧w.cell? ⟨(ad.add (i.toNat*14)).block,(ad.add (i.toNat*14)).off+4,none⟩=some (.int .i64 (rd_T67 xs i).f2.f2)∧w.cell? ⟨(ad.add (i.toNat*14)).block,(ad.add (i.toNat*14)).off+5,none⟩=some (.int .i64 (rd_T67 xs i).f3.f0)∧w.cell? ⟨(ad.add (i.toNat*14)).block,(ad.add (i.toNat*14)).off+6,none⟩=some (.int .i64 (rd_T67 xs i).f3.f1)∧w.cell? ⟨(ad.add (i.toNat*14)).block,(ad.add (i.toNat*14)).off+7,none⟩=some (.bool (rd_T67 xs i).f3.f2)∧w.cell? ⟨(ad.add (i.toNat*14)).block,(ad.add (i.toNat*14)).off+8,none⟩=some (.bool (rd_T67 xs i).f3.f3)∧w.cell? ⟨(ad.add (i.toNat*14)).block,(ad.add (i.toNat*14)).off+9,none⟩=some (.int .i64 (rd_T67 xs i).f4.f0)∧w.cell? ⟨(ad.add (i.toNat*14)).block,(ad.add (i.toNat*14)).off+10,none⟩=some (.int .i64 (rd_T67 xs i).f4.f1)∧w.cell? ⟨(ad.add (i.toNat*14)).block,(ad.add (i.toNat*14)).off+11,none⟩=some (.bool (rd_T67 xs i).f4.f2)∧w.cell? ⟨(ad.add (i.toNat*14)).block,(ad.add (i.toNat*14)).off+12,none⟩=some (.bool (rd_T67 xs i).f4.f3)∧w.cell? ⟨(ad.add (i.toNat*14)).block,(ad.add (i.toNat*14)).off+13,none⟩=some (.int .i64 (rd_T67 xs i).f5):=by
 obtain⟨ad,c,e,_,hK,hc0⟩:=Kd.C_get h z67 i h0 h1
 have hc:∀ j u,c[j]? =some u→w.cell? (ad.add (i.toNat*14+j))=some u:=hc0
 obtain rfl:=k67_open hK
 exact⟨ad,e,hc 0 _ rfl,by rw [←z18q _ _ 1 (by omega)];exact hc 1 _ rfl,by rw [←z18q _ _ 2 (by omega)];exact hc 2 _ rfl,by rw [←z18q _ _ 3 (by omega)];exact hc 3 _ rfl,by rw [←z18q _ _ 4 (by omega)];exact hc 4 _ rfl,by rw [←z18q _ _ 5 (by omega)];exact hc 5 _ rfl,by rw [←z18q _ _ 6 (by omega)];exact hc 6 _ rfl,by rw [←z18q _ _ 7 (by omega)];exact hc 7 _ rfl,by rw [←z18q _ _ 8 (by omega)];exact hc 8 _ rfl,by rw [←z18q _ _ 9 (by omega)];exact hc 9 _ rfl,by rw [←z18q _ _ 10 (by omega)];exact hc 10 _ rfl,by rw [←z18q _ _ 11 (by omega)];exact hc 11 _ rfl,by rw [←z18q _ _ 12 (by omega)];exact hc 12 _ rfl,by rw [←z18q _ _ 13 (by omega)];exact hc 13 _ rfl⟩

/-! #### struct type 70, nested in itself -/
structure S70 where
 f0:S67
 f1:(List S70)
def z70:S70:=⟨z67,([]:List S70)⟩
def F70 (d:Kd S70):Kd S70:=Kd.iso (Kd.pair k67 (Kd.slice 70 d)) (fun x:S70=>(x.f0,x.f1))
theorem mono70:Kd.Mono F70:=Kd.mono_iso _ (Kd.mono_pair (Kd.mono_const _) (Kd.mono_slice 70 Kd.mono_id))
theorem sub70:Kd.Sub F70 [70]:=Kd.sub_iso _ (Kd.sub_pair (Kd.sub_const _ (by decide)) (Kd.sub_slice 70 (by decide) Kd.sub_id))
theorem sz70:∀ n,(Kd.upto F70 15 [70] n).sz=15:=Kd.upto_sz (fun _=>rfl)
def k70:Kd S70:=Kd.fix F70 15 [70] sz70 (Kd.upto_E sub70)
theorem k70_open {w:World} {x:S70} {cs:List Value} (h:k70.K w x cs):∃ A14 c14,cs= [.int .i64 x.f0.f0,.string x.f0.f1,.bool x.f0.f2.f0,.int .i64 x.f0.f2.f1,.int .i64 x.f0.f2.f2,.int .i64 x.f0.f3.f0,.int .i64 x.f0.f3.f1,.bool x.f0.f3.f2,.bool x.f0.f3.f3,.int .i64 x.f0.f4.f0,.int .i64 x.f0.f4.f1,.bool x.f0.f4.f2,.bool x.f0.f4.f3,.int .i64 x.f0.f5,.slice A14 x.f1.length c14]∧x.f1.length≤c14∧k70.C w A14 x.f1.length x.f1:=by
 obtain⟨n,h⟩:=h
 cases n with
 |zero=>exact h.elim
 |succ n=>
  obtain⟨_,_,rfl,s0,⟨A14,c14,rfl,l14,g14⟩⟩:=h
  obtain rfl:=k67_open s0
  exact⟨A14,c14,rfl,l14,Kd.fix_C g14⟩
theorem k70_mkM (w:World) (base:Nat) (ok:Nat→Prop) (x:S70) {v14:Value} (g14:k70.R 70 w base ok v14 x.f1):k70.M w base ok x [.int .i64 x.f0.f0,.string x.f0.f1,.bool x.f0.f2.f0,.int .i64 x.f0.f2.f1,.int .i64 x.f0.f2.f2,.int .i64 x.f0.f3.f0,.int .i64 x.f0.f3.f1,.bool x.f0.f3.f2,.bool x.f0.f3.f3,.int .i64 x.f0.f4.f0,.int .i64 x.f0.f4.f1,.bool x.f0.f4.f2,.bool x.f0.f4.f3,.int .i64 x.f0.f5,v14]:=by
 obtain⟨n14,q14⟩:=Kd.fix_R_back mono70 g14
 have r14:=Kd.upto_R_le mono70 sz70 (show n14≤n14 by omega) q14
 exact⟨n14+1,⟨[.int .i64 x.f0.f0,.string x.f0.f1,.bool x.f0.f2.f0,.int .i64 x.f0.f2.f1,.int .i64 x.f0.f2.f2,.int .i64 x.f0.f3.f0,.int .i64 x.f0.f3.f1,.bool x.f0.f3.f2,.bool x.f0.f3.f3,.int .i64 x.f0.f4.f0,.int .i64 x.f0.f4.f1,.bool x.f0.f4.f2,.bool x.f0.f4.f3,.int .i64 x.f0.f5], [v14],rfl,(k67_mkM w base ok x.f0),⟨v14,rfl,r14⟩⟩⟩
def rd_T70 (xs:List S70) (i:Int):S70:=xs.getD i.toNat z70
theorem at_T70 {w:World} {A:Option Addr} {n:Nat} {xs:List S70} (h:Kd.C k70 w A n xs) (i:Int) (h0:0≤i) (h1:i<n):∃ ad A14 c14,A=some ad∧w.cell? (ad.add (i.toNat*15))=some (.int .i64 (rd_T70 xs i).f0.f0)∧w.cell? ⟨(ad.add (i.toNat*15)).block,(ad.add (i.toNat*15)).off+1,none⟩=some (.string (rd_T70 xs i).f0.f1)∧w.cell? ⟨(ad.add (i.toNat*15)).block,(ad.add (i.toNat*15)).off+2,none⟩=some (.bool (rd_T70 xs i).f0.f2.f0)∧w.cell? ⟨(ad.add (i.toNat*15)).block,(ad.add (i.toNat*15)).off+3,none⟩=some (.int .i64 (rd_T70 xs i).f0.f2.f1)∧w.cell? ⟨(ad.add (i.toNat*15)).block,(ad.add (i.toNat*15)).off+4,none⟩=some (.int .i64 (rd_T70 xs i).f0.f2.f2)∧w.cell? ⟨(ad.add (i.toNat*15)).block,(ad.add (i.toNat*15)).off+5,none⟩=some (.int .i64 (rd_T70 xs i).f0.f3.f0)∧w.cell? ⟨(ad.add (i.toNat*15)).block,(ad.add (i.toNat*15)).off+6,none⟩=some (.int .i64 (rd_T70 xs i).f0.f3.f1)∧w.cell? ⟨(ad.add (i.toNat*15)).block,(ad.add (i.toNat*15)).off+7,none⟩=some (.bool (rd_T70 xs i).f0.f3.f2)∧w.cell? ⟨(ad.add (i.toNat*15)).block,(ad.add (i.toNat*15)).off+8,none⟩=some (.bool (rd_T70 xs i).f0.f3.f3)∧w.cell? ⟨(ad.add (i.toNat*15)).block,(ad.add (i.toNat*15)).off+9,none⟩=some (.int .i64 (rd_T70 xs i).f0.f4.f0)∧w.cell? ⟨(ad.add (i.toNat*15)).block,(ad.add (i.toNat*15)).off+10,none⟩=some (.int .i64 (rd_T70 xs i).f0.f4.f1)∧w.cell? ⟨(ad.add (i.toNat*15)).block,(ad.add (i.toNat*15)).off+11,none⟩=some (.bool (rd_T70 xs i).f0.f4.f2)∧w.cell? ⟨(ad.add (i.toNat*15)).block,(ad.add (i.toNat*15)).off+12,none⟩=some (.bool (rd_T70 xs i).f0.f4.f3)∧w.cell? ⟨(ad.add (i.toNat*15)).block,(ad.add (i.toNat*15)).off+13,none⟩=some (.int .i64 (rd_T70 xs i).f0.f5)∧w.cell? ⟨(ad.add (i.toNat*15)).block,(ad.add (i.toNat*15)).off+14,none⟩=some (.slice A14 (rd_T70 xs i).f1.length c14)∧(rd_T70 xs i).f1.length≤c14∧k70.C w A14 (rd_T70 xs i).f1.length (rd_T70 xs i).f1:=by
 obtain⟨ad,c,e,_,hK,hc0⟩:=Kd.C_get h z70 i h0 h1
 have hc:∀ j u,c[j]? =some u→w.cell? (ad.add (i.toNat*15+j))=some u:=hc0
 obtain⟨A14,c14,rfl,l14,g14⟩:=k70_open hK
 exact⟨ad,A14,c14,e,hc 0 _ rfl,by rw [←z18q _ _ 1 (by omega)];exact hc 1 _ rfl,by rw [←z18q _ _ 2 (by omega)];exact hc 2 _ rfl,by rw [←z18q _ _ 3 (by omega)];exact hc 3 _ rfl,by rw [←z18q _ _ 4 (by omega)];exact hc 4 _ rfl,by rw [←z18q _ _ 5 (by omega)];exact hc 5 _ rfl,by rw [←z18q _ _ 6 (by omega)];exact hc 6 _ rfl,by rw [←z18q _ _ 7 (by omega)];exact hc 7 _ rfl,by rw [←z18q _ _ 8 (by omega)];exact hc 8 _ rfl,by rw [←z18q _ _ 9 (by omega)];exact hc 9 _ rfl,by rw [←z18q _ _ 10 (by omega)];exact hc 10 _ rfl,by rw [←z18q _ _ 11 (by omega)];exact hc 11 _ rfl,by rw [←z18q _ _ 12 (by omega)];exact hc 12 _ rfl,by rw [←z18q _ _ 13 (by omega)];exact hc 13 _ rfl,by rw [←z18q _ _ 14 (by omega)];exact hc 14 _ rfl,l14,g14⟩




theorem eqA47 (d:Nat) (w:World) (x0 y0:Int) (x1 y1:Int) (x2 y2:Bool) (x3 y3:Bool):
  (Op.equalIn (d+2) 47 (.agg #[.int .i64 x0,.int .i64 x1,.bool x2,.bool x3]) (.agg #[.int .i64 y0,.int .i64 y1,.bool y2,.bool y3])).run Tryz.prog w= .ok (x0==y0 && (x1==y1 && (x2==y2 && (x3==y3)))) w:=by
 refine eqA_of Tryz.underlying47 (by kernel_rfl) ?_
 refine eqf_cons (by rfl) (by go_simp;rfl) (by go_simp;rfl) (by go_simp) ?_
 refine eqf_cons (by rfl) (by go_simp;rfl) (by go_simp;rfl) (by go_simp) ?_
 refine eqf_cons (by rfl) (by go_simp;rfl) (by go_simp;rfl) (by go_simp) ?_
 exact eqf_last (by rfl) (by go_simp;rfl) (by go_simp;rfl) (by go_simp)



theorem eqA65 (d:Nat) (w:World) (x0 y0:Bool) (x1 y1:Int) (x2 y2:Int):
  (Op.equalIn (d+2) 65 (.agg #[.bool x0,.int .i64 x1,.int .i64 x2]) (.agg #[.bool y0,.int .i64 y1,.int .i64 y2])).run Tryz.prog w= .ok (x0==y0 && (x1==y1 && (x2==y2))) w:=by
 refine eqA_of Tryz.underlying65 (by kernel_rfl) ?_
 refine eqf_cons (by rfl) (by go_simp;rfl) (by go_simp;rfl) (by go_simp) ?_
 refine eqf_cons (by rfl) (by go_simp;rfl) (by go_simp;rfl) (by go_simp) ?_
 exact eqf_last (by rfl) (by go_simp;rfl) (by go_simp;rfl) (by go_simp)

attribute [local go_sem high] eqA47 eqA65
/-! ### laws_szNode: function 34 -/

def laws_szNode.f (a0_0:Int) (a0_1:ByteArray) (a0_2:Bool) (a0_3:Int) (a0_4:Int) (a0_5:Int) (a0_6:Int) (a0_7:Bool) (a0_8:Bool) (a0_9:Int) (a0_10:Int) (a0_11:Bool) (a0_12:Bool) (a0_13:Int) (a1:Int):Option (Int):=if(wrap64 (a1-(a0_1.size:Int)))<0 then(some (-1))else(some (wrap64 (a1-(a0_1.size:Int))))

set_option maxHeartbeats 8000000 in
set_option maxRecDepth 100000 in
theorem laws_szNode.calls (a0_0:Int) (a0_1:ByteArray) (a0_2:Bool) (a0_3:Int) (a0_4:Int) (a0_5:Int) (a0_6:Int) (a0_7:Bool) (a0_8:Bool) (a0_9:Int) (a0_10:Int) (a0_11:Bool) (a0_12:Bool) (a0_13:Int) (a1:Int) (r:Int) (w:World) (h:laws_szNode.f a0_0 a0_1 a0_2 a0_3 a0_4 a0_5 a0_6 a0_7 a0_8 a0_9 a0_10 a0_11 a0_12 a0_13 a1=some r):
  Calls Tryz.prog 34 #[.agg #[.int .i64 a0_0,.string a0_1,.bool a0_2,.int .i64 a0_3,.int .i64 a0_4,.int .i64 a0_5,.int .i64 a0_6,.bool a0_7,.bool a0_8,.int .i64 a0_9,.int .i64 a0_10,.bool a0_11,.bool a0_12,.int .i64 a0_13],.int .i64 a1] w fun e w'=>e= .returned (.int .i64 r)∧Below w.heap.size w w':=by
 have hu64:=Tryz.underlying64
 have HB:=Aside0.mk (Below.refl w.heap.size w)
 have H:(if(wrap64 (a1-(a0_1.size:Int)))<0 then(some (-1))else(some (wrap64 (a1-(a0_1.size:Int)))))=some r:=h
 clear h
 by_cases c3:(wrap64 (a1-(a0_1.size:Int)))<0
 ·rw [if_pos c3]at H
  have c3b0:decide ((wrap64 (a1-(a0_1.size:Int)))<0)=true:=decide_eq_true c3
  clear c3
  obtain rfl:=Option.some.inj H
  go_enter Tryz.func34,Tryz.ntmps34
  go_wp2_with (first|((with_reducible refine z15q (N:=2) rfl ?_);refine z13q ?hg (N:=2) ?hd (cs:=#[.int .i64 a0_0,.string a0_1,.bool a0_2,.int .i64 a0_3,.int .i64 a0_4,.int .i64 a0_5,.int .i64 a0_6,.bool a0_7,.bool a0_8,.int .i64 a0_9,.int .i64 a0_10,.bool a0_11,.bool a0_12,.int .i64 a0_13]) (t:=64) ?hr ?_;(case hd=>rfl);(case hg=>rfl);(case hr=>first|(go_simp;done)|(go_simp;rfl));intro gb101 hg w4 hbox hb;have n0_:=Aside0.mk (z5q (ibh HB.out) hb);have n1_:=Aside0.mk (hbox);have n2_:=Aside0.mk ((by rw [hg];exact(z6q (ibh HB.out)):w.heap.size≤gb101));have n3_:=Aside0.mk ((by rw [hg];exact(z6q (ibh HB.out)):w.heap.size≤gb101));clear HB;have HB:=n0_;have BK101:=n1_;have GW101:=n2_;have GE101:=n3_;clear n0_ n1_ n2_ n3_;clear hb hbox hg;obtain⟨hcz5_0,hcz5_1,hcz5_2,hcz5_3,hcz5_4,hcz5_5,hcz5_6,hcz5_7,hcz5_8,hcz5_9,hcz5_10,hcz5_11,hcz5_12,hcz5_13,hfz5_0,hfz5_1,hfz5_2,hfz5_3,hfz5_4,hfz5_5,hfz5_6,hfz5_7,hfz5_8,hfz5_9,hfz5_10,hfz5_11,hfz5_12,hfz5_13⟩:=cr14 (w:=w4) (g:=gb101) BK101.out))
  go_ret
  exact⟨by first|rfl|(simp [errW_none,errW_some]<;>rfl)|(simp [*,errW_none,errW_some]<;>rfl),by repeat(first|(with_reducible first|exact HB.out|apply z2q|apply z3q|apply z4q|refine z7q ?_ GE101.out)|exact HB.out)⟩
 ·rw [if_neg c3]at H
  have c3b0:decide ((wrap64 (a1-(a0_1.size:Int)))<0)=false:=decide_eq_false c3
  clear c3
  obtain rfl:=Option.some.inj H
  go_enter Tryz.func34,Tryz.ntmps34
  go_wp2_with (first|((with_reducible refine z15q (N:=2) rfl ?_);refine z13q ?hg (N:=2) ?hd (cs:=#[.int .i64 a0_0,.string a0_1,.bool a0_2,.int .i64 a0_3,.int .i64 a0_4,.int .i64 a0_5,.int .i64 a0_6,.bool a0_7,.bool a0_8,.int .i64 a0_9,.int .i64 a0_10,.bool a0_11,.bool a0_12,.int .i64 a0_13]) (t:=64) ?hr ?_;(case hd=>rfl);(case hg=>rfl);(case hr=>first|(go_simp;done)|(go_simp;rfl));intro gb101 hg w6 hbox hb;have n0_:=Aside0.mk (z5q (ibh HB.out) hb);have n1_:=Aside0.mk (hbox);have n2_:=Aside0.mk ((by rw [hg];exact(z6q (ibh HB.out)):w.heap.size≤gb101));have n3_:=Aside0.mk ((by rw [hg];exact(z6q (ibh HB.out)):w.heap.size≤gb101));clear HB;have HB:=n0_;have BK101:=n1_;have GW101:=n2_;have GE101:=n3_;clear n0_ n1_ n2_ n3_;clear hb hbox hg;obtain⟨hcz7_0,hcz7_1,hcz7_2,hcz7_3,hcz7_4,hcz7_5,hcz7_6,hcz7_7,hcz7_8,hcz7_9,hcz7_10,hcz7_11,hcz7_12,hcz7_13,hfz7_0,hfz7_1,hfz7_2,hfz7_3,hfz7_4,hfz7_5,hfz7_6,hfz7_7,hfz7_8,hfz7_9,hfz7_10,hfz7_11,hfz7_12,hfz7_13⟩:=cr14 (w:=w6) (g:=gb101) BK101.out))
  go_ret
  exact⟨by first|rfl|(simp [errW_none,errW_some]<;>rfl)|(simp [*,errW_none,errW_some]<;>rfl),by repeat(first|(with_reducible first|exact HB.out|apply z2q|apply z3q|apply z4q|refine z7q ?_ GE101.out)|exact HB.out)⟩



/-! ### laws_szNodeS: function 9 -/

def laws_szNodeS.l0:Nat→List (S64)→Int→Int→Option (Int)
 |0,_,_,_=>none
 |k+1,x0,x1,x5=>if x5<(x0.length:Int)then(if 0≤x5 then((laws_szNode.f ((rd_T64 x0 x5).f0) ((rd_T64 x0 x5).f1) ((rd_T64 x0 x5).f2.f0) ((rd_T64 x0 x5).f2.f1) ((rd_T64 x0 x5).f2.f2) ((rd_T64 x0 x5).f3.f0) ((rd_T64 x0 x5).f3.f1) ((rd_T64 x0 x5).f3.f2) ((rd_T64 x0 x5).f3.f3) ((rd_T64 x0 x5).f4.f0) ((rd_T64 x0 x5).f4.f1) ((rd_T64 x0 x5).f4.f2) ((rd_T64 x0 x5).f4.f3) ((rd_T64 x0 x5).f5) x1).bind fun t103=>(if t103<0 then(some (-1))else(laws_szNodeS.l0 k x0 t103 (wrap64 (x5+1)))))else(none))else(some x1)

def laws_szNodeS.f (k:Nat) (l0:List (S64)) (a1:Int):Option (Int):=if(wrap64 (a1-(l0.length:Int)))<0 then(some (-1))else(laws_szNodeS.l0 k l0 (wrap64 (a1-(l0.length:Int))) 0)

set_option maxHeartbeats 8000000 in
set_option maxRecDepth 100000 in
theorem laws_szNodeS.calls (k:Nat) (A0:Option Addr) (c0:Nat) (l0:List (S64)) (a1:Int) (r:Int) (w:World) (hr0:Kd.C k64 w A0 l0.length l0) (hc0:l0.length≤c0) (h:laws_szNodeS.f k l0 a1=some r):
  Calls Tryz.prog 9 #[.slice A0 l0.length c0,.int .i64 a1] w fun e w'=>e= .returned (.int .i64 r)∧Below w.heap.size w w':=by
 have hu64:=Tryz.underlying64
 have HR0:=Aside0.mk hr0
 have HC0:=Aside0.mk hc0
 clear hr0 hc0
 have HB:=Aside0.mk (Below.refl w.heap.size w)
 have H:(if(wrap64 (a1-(l0.length:Int)))<0 then(some (-1))else(laws_szNodeS.l0 k l0 (wrap64 (a1-(l0.length:Int))) 0))=some r:=h
 clear h
 by_cases c3:(wrap64 (a1-(l0.length:Int)))<0
 ·rw [if_pos c3]at H
  have c3b0:decide ((wrap64 (a1-(l0.length:Int)))<0)=true:=decide_eq_true c3
  clear c3
  obtain rfl:=Option.some.inj H
  go_enter Tryz.func9,Tryz.ntmps9
  go_wp2
  go_ret
  exact⟨by first|rfl|(simp [errW_none,errW_some]<;>rfl)|(simp [*,errW_none,errW_some]<;>rfl),by repeat(first|(with_reducible first|exact HB.out|apply z2q|apply z3q|apply z4q)|exact HB.out)⟩
 ·rw [if_neg c3]at H
  have c3b0:decide ((wrap64 (a1-(l0.length:Int)))<0)=false:=decide_eq_false c3
  clear c3
  have H':=Aside0.mk H
  clear H
  go_enter Tryz.func9,Tryz.ntmps9
  go_wp2
  go_loopg [1,5] k (fun kq v1 v5 w'=>∃ (x1_1:Int) (x5_1:Int),v1= .int .i64 x1_1∧v5= .int .i64 x5_1∧Aside0 (laws_szNodeS.l0 kq l0 x1_1 x5_1=some r)∧Aside0 (kq≤k)∧Aside0 (Below w.heap.size w w'))
  case atStart=>exact⟨(wrap64 (a1-(l0.length:Int))),(0),(by first|rfl|(simp;done)|(simp [*];done)|(simp;unfold wrap64;omega)),(by first|rfl|(simp;done)|(simp [*];done)|(simp;unfold wrap64;omega)),H',⟨Nat.le_refl _⟩,⟨by repeat(first|(with_reducible first|exact HB.out|apply z2q|apply z3q|apply z4q)|exact HB.out)⟩⟩
  case round=>
   clear H'
   try clear p2
   try clear c3
   try clear c3b0
   obtain⟨x1_1,x5_1,rfl,rfl,HA,HK1,HB⟩:=hrel
   cases gk with
   |zero=>exact absurd HA.out (by simp [laws_szNodeS.l0])
   |succ k1=>
    have H:=HA.out
    clear HA
    simp only [laws_szNodeS.l0]at H
    by_cases c4:x5_1<(l0.length:Int)
    ·rw [if_pos c4]at H
     have c4b0:decide (x5_1<(l0.length:Int))=true:=decide_eq_true c4
     clear c4
     by_cases c5:0≤x5_1
     ·rw [if_pos c5]at H
      have c5b0:decide (0≤x5_1)=true:=decide_eq_true c5
      clear c5
      replace H:=Option.bind_eq_some_iff.mp H
      obtain⟨t103,A60,H⟩:=H
      replace H:(if t103<0 then(some (-1))else(laws_szNodeS.l0 k1 l0 t103 (wrap64 (x5_1+1))))=some r:=H
      have A6:=Aside0.mk A60
      clear A60
      by_cases c7:t103<0
      ·rw [if_pos c7]at H
       have c7b0:decide (t103<0)=true:=decide_eq_true c7
       clear c7
       obtain rfl:=Option.some.inj H
       have p102:0≤(x5_1:Int):=of_decide_eq_true (by first|(with_reducible assumption)|assumption)
       have q102:x5_1<(l0.length:Int):=of_decide_eq_true (by first|(with_reducible assumption)|assumption)
       obtain⟨ad102,e102,hx102_0,hx102_1,hx102_2,hx102_3,hx102_4,hx102_5,hx102_6,hx102_7,hx102_8,hx102_9,hx102_10,hx102_11,hx102_12,hx102_13⟩:=at_T64 HR0.out x5_1 p102 q102
       cases e102
       replace hx102_0:=(hbc HB.out hx102_0).trans hx102_0
       replace hx102_1:=(hbc HB.out hx102_1).trans hx102_1
       replace hx102_2:=(hbc HB.out hx102_2).trans hx102_2
       replace hx102_3:=(hbc HB.out hx102_3).trans hx102_3
       replace hx102_4:=(hbc HB.out hx102_4).trans hx102_4
       replace hx102_5:=(hbc HB.out hx102_5).trans hx102_5
       replace hx102_6:=(hbc HB.out hx102_6).trans hx102_6
       replace hx102_7:=(hbc HB.out hx102_7).trans hx102_7
       replace hx102_8:=(hbc HB.out hx102_8).trans hx102_8
       replace hx102_9:=(hbc HB.out hx102_9).trans hx102_9
       replace hx102_10:=(hbc HB.out hx102_10).trans hx102_10
       replace hx102_11:=(hbc HB.out hx102_11).trans hx102_11
       replace hx102_12:=(hbc HB.out hx102_12).trans hx102_12
       replace hx102_13:=(hbc HB.out hx102_13).trans hx102_13
       replace p102:=eq_true p102
       replace q102:=eq_true q102
       go_wp2_with (first|((with_reducible refine z8q (f:=34) rfl ?_);refine z17q (some 23) rfl rfl Tryz.func34 (by kernel_rfl) rfl #[.agg #[.int .i64 ((rd_T64 l0 x5_1).f0),.string ((rd_T64 l0 x5_1).f1),.bool ((rd_T64 l0 x5_1).f2.f0),.int .i64 ((rd_T64 l0 x5_1).f2.f1),.int .i64 ((rd_T64 l0 x5_1).f2.f2),.int .i64 ((rd_T64 l0 x5_1).f3.f0),.int .i64 ((rd_T64 l0 x5_1).f3.f1),.bool ((rd_T64 l0 x5_1).f3.f2),.bool ((rd_T64 l0 x5_1).f3.f3),.int .i64 ((rd_T64 l0 x5_1).f4.f0),.int .i64 ((rd_T64 l0 x5_1).f4.f1),.bool ((rd_T64 l0 x5_1).f4.f2),.bool ((rd_T64 l0 x5_1).f4.f3),.int .i64 ((rd_T64 l0 x5_1).f5)],.int .i64 x1_1] rfl (by(try simp only [map_toArray,map_cons,map_nil]);first|done|rfl|(simp only [length_drop,length_take];rfl)) ?_;(with_reducible refine(laws_szNode.calls ((rd_T64 l0 x5_1).f0) ((rd_T64 l0 x5_1).f1) ((rd_T64 l0 x5_1).f2.f0) ((rd_T64 l0 x5_1).f2.f1) ((rd_T64 l0 x5_1).f2.f2) ((rd_T64 l0 x5_1).f3.f0) ((rd_T64 l0 x5_1).f3.f1) ((rd_T64 l0 x5_1).f3.f2) ((rd_T64 l0 x5_1).f3.f3) ((rd_T64 l0 x5_1).f4.f0) ((rd_T64 l0 x5_1).f4.f1) ((rd_T64 l0 x5_1).f4.f2) ((rd_T64 l0 x5_1).f4.f3) ((rd_T64 l0 x5_1).f5) x1_1 t103 _ A6.out).mono ?_);rintro e w8 ⟨rfl,hb⟩;refine⟨_,rfl,?_⟩;have n0_:=Aside0.mk (z5q (ibh HB.out) hb);clear HB;have HB:=n0_;clear n0_;(try clear hb);(try clear hb2);(try clear hk);(try clear hi)))
       go_ret
       exact⟨by first|rfl|(simp [errW_none,errW_some]<;>rfl)|(simp [*,errW_none,errW_some]<;>rfl),by repeat(first|(with_reducible first|exact HB.out|apply z2q|apply z3q|apply z4q)|exact HB.out)⟩
      ·rw [if_neg c7]at H
       have c7b0:decide (t103<0)=false:=decide_eq_false c7
       clear c7
       have H':=Aside0.mk H
       clear H
       have p102:0≤(x5_1:Int):=of_decide_eq_true (by first|(with_reducible assumption)|assumption)
       have q102:x5_1<(l0.length:Int):=of_decide_eq_true (by first|(with_reducible assumption)|assumption)
       obtain⟨ad102,e102,hx102_0,hx102_1,hx102_2,hx102_3,hx102_4,hx102_5,hx102_6,hx102_7,hx102_8,hx102_9,hx102_10,hx102_11,hx102_12,hx102_13⟩:=at_T64 HR0.out x5_1 p102 q102
       cases e102
       replace hx102_0:=(hbc HB.out hx102_0).trans hx102_0
       replace hx102_1:=(hbc HB.out hx102_1).trans hx102_1
       replace hx102_2:=(hbc HB.out hx102_2).trans hx102_2
       replace hx102_3:=(hbc HB.out hx102_3).trans hx102_3
       replace hx102_4:=(hbc HB.out hx102_4).trans hx102_4
       replace hx102_5:=(hbc HB.out hx102_5).trans hx102_5
       replace hx102_6:=(hbc HB.out hx102_6).trans hx102_6
       replace hx102_7:=(hbc HB.out hx102_7).trans hx102_7
       replace hx102_8:=(hbc HB.out hx102_8).trans hx102_8
       replace hx102_9:=(hbc HB.out hx102_9).trans hx102_9
       replace hx102_10:=(hbc HB.out hx102_10).trans hx102_10
       replace hx102_11:=(hbc HB.out hx102_11).trans hx102_11
       replace hx102_12:=(hbc HB.out hx102_12).trans hx102_12
       replace hx102_13:=(hbc HB.out hx102_13).trans hx102_13
       replace p102:=eq_true p102
       replace q102:=eq_true q102
       go_wp2_with (first|((with_reducible refine z8q (f:=34) rfl ?_);refine z17q (some 23) rfl rfl Tryz.func34 (by kernel_rfl) rfl #[.agg #[.int .i64 ((rd_T64 l0 x5_1).f0),.string ((rd_T64 l0 x5_1).f1),.bool ((rd_T64 l0 x5_1).f2.f0),.int .i64 ((rd_T64 l0 x5_1).f2.f1),.int .i64 ((rd_T64 l0 x5_1).f2.f2),.int .i64 ((rd_T64 l0 x5_1).f3.f0),.int .i64 ((rd_T64 l0 x5_1).f3.f1),.bool ((rd_T64 l0 x5_1).f3.f2),.bool ((rd_T64 l0 x5_1).f3.f3),.int .i64 ((rd_T64 l0 x5_1).f4.f0),.int .i64 ((rd_T64 l0 x5_1).f4.f1),.bool ((rd_T64 l0 x5_1).f4.f2),.bool ((rd_T64 l0 x5_1).f4.f3),.int .i64 ((rd_T64 l0 x5_1).f5)],.int .i64 x1_1] rfl (by(try simp only [map_toArray,map_cons,map_nil]);first|done|rfl|(simp only [length_drop,length_take];rfl)) ?_;(with_reducible refine(laws_szNode.calls ((rd_T64 l0 x5_1).f0) ((rd_T64 l0 x5_1).f1) ((rd_T64 l0 x5_1).f2.f0) ((rd_T64 l0 x5_1).f2.f1) ((rd_T64 l0 x5_1).f2.f2) ((rd_T64 l0 x5_1).f3.f0) ((rd_T64 l0 x5_1).f3.f1) ((rd_T64 l0 x5_1).f3.f2) ((rd_T64 l0 x5_1).f3.f3) ((rd_T64 l0 x5_1).f4.f0) ((rd_T64 l0 x5_1).f4.f1) ((rd_T64 l0 x5_1).f4.f2) ((rd_T64 l0 x5_1).f4.f3) ((rd_T64 l0 x5_1).f5) x1_1 t103 _ A6.out).mono ?_);rintro e w9 ⟨rfl,hb⟩;refine⟨_,rfl,?_⟩;have n0_:=Aside0.mk (z5q (ibh HB.out) hb);clear HB;have HB:=n0_;clear n0_;(try clear hb);(try clear hb2);(try clear hk);(try clear hi)))
       go_roundg k1
       case measure=>have:=HK1.out;omega
       case rel=>exact⟨(t103),(wrap64 (x5_1+1)),(by first|rfl|(simp;done)|(simp [*];done)|(simp;unfold wrap64;omega)),(by first|rfl|(simp;done)|(simp [*];done)|(simp;unfold wrap64;omega)),H',⟨by have:=HK1.out;omega⟩,⟨by repeat(first|(with_reducible first|exact HB.out|apply z2q|apply z3q|apply z4q)|exact HB.out)⟩⟩
     ·rw [if_neg c5]at H
      exact absurd H (by simp)
    ·rw [if_neg c4]at H
     have c4b0:decide (x5_1<(l0.length:Int))=false:=decide_eq_false c4
     clear c4
     obtain rfl:=Option.some.inj H
     go_wp2
     go_ret
     exact⟨by first|rfl|(simp [errW_none,errW_some]<;>rfl)|(simp [*,errW_none,errW_some]<;>rfl),by repeat(first|(with_reducible first|exact HB.out|apply z2q|apply z3q|apply z4q)|exact HB.out)⟩



/-! ### laws_toDec: function 72 -/

def laws_toDec.f (a0_0:Bool) (a0_1:Int) (a0_2:Int):Option (Bool×Int×Int):=some (a0_0,a0_1,a0_2)

set_option maxHeartbeats 8000000 in
set_option maxRecDepth 100000 in
theorem laws_toDec.calls (a0_0:Bool) (a0_1:Int) (a0_2:Int) (r1:Bool) (r2:Int) (r3:Int) (w:World) (h:laws_toDec.f a0_0 a0_1 a0_2=some (r1,r2,r3)):
  Calls Tryz.prog 72 #[.agg #[.bool a0_0,.int .i64 a0_1,.int .i64 a0_2]] w fun e w'=>e= .returned (.agg #[.bool r1,.int .i64 r2,.int .i64 r3])∧Below w.heap.size w w':=by
 have hu62:=Tryz.underlying62
 have hu65:=Tryz.underlying65
 have HB:=Aside0.mk (Below.refl w.heap.size w)
 have H:(some (a0_0,a0_1,a0_2))=some (r1,r2,r3):=h
 clear h
 simp only [Option.some.injEq,Prod.mk.injEq]at H
 obtain⟨rfl,rfl,rfl⟩:=H
 go_enter Tryz.func72,Tryz.ntmps72
 go_wp2_with (first|((with_reducible refine z15q (N:=1) rfl ?_);refine z13q ?hg (N:=1) ?hd (cs:=#[.bool a0_0,.int .i64 a0_1,.int .i64 a0_2]) (t:=62) ?hr ?_;(case hd=>rfl);(case hg=>rfl);(case hr=>first|(go_simp;done)|(go_simp;rfl));intro gb104 hg w2 hbox hb;have n0_:=Aside0.mk (z5q (ibh HB.out) hb);have n1_:=Aside0.mk (hbox);have n2_:=Aside0.mk ((by rw [hg];exact(z6q (ibh HB.out)):w.heap.size≤gb104));have n3_:=Aside0.mk ((by rw [hg];exact(z6q (ibh HB.out)):w.heap.size≤gb104));clear HB;have HB:=n0_;have BK104:=n1_;have GW104:=n2_;have GE104:=n3_;clear n0_ n1_ n2_ n3_;clear hb hbox hg)|((with_reducible refine z15q (N:=2) rfl ?_);refine z13q ?hg (N:=2) ?hd (cs:=#[.bool false,.int .i64 0,.int .i64 0]) (t:=65) ?hr ?_;(case hd=>rfl);(case hg=>rfl);(case hr=>first|(go_simp;done)|(go_simp;rfl));intro gb105 hg w3 hbox hb;have n0_:=Aside0.mk (z12q (cy BK104.out) hb);have n1_:=Aside0.mk (z5q (ibh HB.out) hb);have n2_:=Aside0.mk (hbox);have n3_:=Aside0.mk ((by rw [hg];exact(z6q (ibh HB.out)):w.heap.size≤gb105));have n4_:=Aside0.mk ((by rw [hg];exact(z6q (ibh HB.out)):w.heap.size≤gb105));have n5_:=Aside0.mk ((by rw [hg];exact Nat.ne_of_lt (z20q (cy BK104.out)):gb104≠gb105));have n6_:=Aside0.mk ((by rw [hg];exact Nat.ne_of_gt (z20q (cy BK104.out)):gb105≠gb104));clear BK104;clear HB;have BK104:=n0_;have HB:=n1_;have BK105:=n2_;have GW105:=n3_;have GE105:=n4_;have NB104_105:=n5_;have NB105_104:=n6_;clear n0_ n1_ n2_ n3_ n4_ n5_ n6_;clear hb hbox hg)|((with_reducible refine z15q (N:=3) rfl ?_);refine z13q ?hg (N:=3) ?hd (cs:=#[.bool false,.int .i64 0,.int .i64 0]) (t:=65) ?hr ?_;(case hd=>rfl);(case hg=>rfl);(case hr=>first|(go_simp;done)|(go_simp;rfl));intro gb106 hg w4 hbox hb;have n0_:=Aside0.mk (z12q (cy BK104.out) hb);have n1_:=Aside0.mk (z12q (cy BK105.out) hb);have n2_:=Aside0.mk (z5q (ibh HB.out) hb);have n3_:=Aside0.mk (hbox);have n4_:=Aside0.mk ((by rw [hg];exact(z6q (ibh HB.out)):w.heap.size≤gb106));have n5_:=Aside0.mk ((by rw [hg];exact(z6q (ibh HB.out)):w.heap.size≤gb106));have n6_:=Aside0.mk ((by rw [hg];exact Nat.ne_of_lt (z20q (cy BK104.out)):gb104≠gb106));have n7_:=Aside0.mk ((by rw [hg];exact Nat.ne_of_gt (z20q (cy BK104.out)):gb106≠gb104));have n8_:=Aside0.mk ((by rw [hg];exact Nat.ne_of_lt (z20q (cy BK105.out)):gb105≠gb106));have n9_:=Aside0.mk ((by rw [hg];exact Nat.ne_of_gt (z20q (cy BK105.out)):gb106≠gb105));clear BK104;clear BK105;clear HB;have BK104:=n0_;have BK105:=n1_;have HB:=n2_;have BK106:=n3_;have GW106:=n4_;have GE106:=n5_;have NB104_106:=n6_;have NB106_104:=n7_;have NB105_106:=n8_;have NB106_105:=n9_;clear n0_ n1_ n2_ n3_ n4_ n5_ n6_ n7_ n8_ n9_;clear hb hbox hg;have hnb5:=NB104_105.out;have hnc5:=NB105_104.out;have hnb6:=NB104_106.out;have hnc6:=NB106_104.out;obtain⟨hcz7_0,hcz7_1,hcz7_2,hfz7_0,hfz7_1,hfz7_2⟩:=cr3 (w:=w4) (g:=gb104) BK104.out;have hnb8:=NB106_105.out;have hnc8:=NB105_106.out;obtain⟨hcz9_0,hcz9_1,hcz9_2,hfz9_0,hfz9_1,hfz9_2⟩:=cr3 (w:=w4) (g:=gb106) BK106.out;obtain⟨hcz10_0,hcz10_1,hcz10_2,hfz10_0,hfz10_1,hfz10_2⟩:=cr3 (w:=w4) (g:=gb105) BK105.out))
 refine bodyPost_ret (results_cell_row rfl _ _ gb105 65 #[.bool a0_0,.int .i64 a0_1,.int .i64 a0_2] (0,0) _ rfl (by refine cz ?_;refine z11q (cs:=#[.bool a0_0,.int .i64 a0_1,.int .i64 0]) ?_ 2 _ rfl;refine cz ?_;refine z11q (cs:=#[.bool a0_0,.int .i64 0,.int .i64 0]) ?_ 1 _ rfl;refine cz ?_;refine z11q (cs:=#[.bool false,.int .i64 0,.int .i64 0]) ?_ 0 _ rfl;exact cy BK105.out) Tryz.underlying65 rfl (by kernel_rfl)) rfl ?_
 exact⟨by first|rfl|(simp [errW_none,errW_some]<;>rfl)|(simp [*,errW_none,errW_some]<;>rfl),by repeat(first|(with_reducible first|exact HB.out|apply z2q|apply z3q|apply z4q|refine z7q ?_ GE104.out|refine z7q ?_ GE105.out|refine z7q ?_ GE106.out)|exact HB.out)⟩



/-! ### laws_toRef: function 73 -/

def laws_toRef.f (a0_0:Int) (a0_1:Int) (a0_2:Bool) (a0_3:Bool):Option (Int×Int×Bool×Bool):=some (a0_0,a0_1,a0_2,a0_3)

set_option maxHeartbeats 8000000 in
set_option maxRecDepth 100000 in
theorem laws_toRef.calls (a0_0:Int) (a0_1:Int) (a0_2:Bool) (a0_3:Bool) (r1:Int) (r2:Int) (r3:Bool) (r4:Bool) (w:World) (h:laws_toRef.f a0_0 a0_1 a0_2 a0_3=some (r1,r2,r3,r4)):
  Calls Tryz.prog 73 #[.agg #[.int .i64 a0_0,.int .i64 a0_1,.bool a0_2,.bool a0_3]] w fun e w'=>e= .returned (.agg #[.int .i64 r1,.int .i64 r2,.bool r3,.bool r4])∧Below w.heap.size w w':=by
 have hu41:=Tryz.underlying41
 have hu47:=Tryz.underlying47
 have HB:=Aside0.mk (Below.refl w.heap.size w)
 have H:(some (a0_0,a0_1,a0_2,a0_3))=some (r1,r2,r3,r4):=h
 clear h
 simp only [Option.some.injEq,Prod.mk.injEq]at H
 obtain⟨rfl,rfl,rfl,rfl⟩:=H
 go_enter Tryz.func73,Tryz.ntmps73
 go_wp2_with (first|((with_reducible refine z15q (N:=1) rfl ?_);refine z13q ?hg (N:=1) ?hd (cs:=#[.int .i64 a0_0,.int .i64 a0_1,.bool a0_2,.bool a0_3]) (t:=41) ?hr ?_;(case hd=>rfl);(case hg=>rfl);(case hr=>first|(go_simp;done)|(go_simp;rfl));intro gb107 hg w2 hbox hb;have n0_:=Aside0.mk (z5q (ibh HB.out) hb);have n1_:=Aside0.mk (hbox);have n2_:=Aside0.mk ((by rw [hg];exact(z6q (ibh HB.out)):w.heap.size≤gb107));have n3_:=Aside0.mk ((by rw [hg];exact(z6q (ibh HB.out)):w.heap.size≤gb107));clear HB;have HB:=n0_;have BK107:=n1_;have GW107:=n2_;have GE107:=n3_;clear n0_ n1_ n2_ n3_;clear hb hbox hg)|((with_reducible refine z15q (N:=2) rfl ?_);refine z13q ?hg (N:=2) ?hd (cs:=#[.int .i64 0,.int .i64 0,.bool false,.bool false]) (t:=47) ?hr ?_;(case hd=>rfl);(case hg=>rfl);(case hr=>first|(go_simp;done)|(go_simp;rfl));intro gb108 hg w3 hbox hb;have n0_:=Aside0.mk (z12q (cy BK107.out) hb);have n1_:=Aside0.mk (z5q (ibh HB.out) hb);have n2_:=Aside0.mk (hbox);have n3_:=Aside0.mk ((by rw [hg];exact(z6q (ibh HB.out)):w.heap.size≤gb108));have n4_:=Aside0.mk ((by rw [hg];exact(z6q (ibh HB.out)):w.heap.size≤gb108));have n5_:=Aside0.mk ((by rw [hg];exact Nat.ne_of_lt (z20q (cy BK107.out)):gb107≠gb108));have n6_:=Aside0.mk ((by rw [hg];exact Nat.ne_of_gt (z20q (cy BK107.out)):gb108≠gb107));clear BK107;clear HB;have BK107:=n0_;have HB:=n1_;have BK108:=n2_;have GW108:=n3_;have GE108:=n4_;have NB107_108:=n5_;have NB108_107:=n6_;clear n0_ n1_ n2_ n3_ n4_ n5_ n6_;clear hb hbox hg)|((with_reducible refine z15q (N:=3) rfl ?_);refine z13q ?hg (N:=3) ?hd (cs:=#[.int .i64 0,.int .i64 0,.bool false,.bool false]) (t:=47) ?hr ?_;(case hd=>rfl);(case hg=>rfl);(case hr=>first|(go_simp;done)|(go_simp;rfl));intro gb109 hg w4 hbox hb;have n0_:=Aside0.mk (z12q (cy BK107.out) hb);have n1_:=Aside0.mk (z12q (cy BK108.out) hb);have n2_:=Aside0.mk (z5q (ibh HB.out) hb);have n3_:=Aside0.mk (hbox);have n4_:=Aside0.mk ((by rw [hg];exact(z6q (ibh HB.out)):w.heap.size≤gb109));have n5_:=Aside0.mk ((by rw [hg];exact(z6q (ibh HB.out)):w.heap.size≤gb109));have n6_:=Aside0.mk ((by rw [hg];exact Nat.ne_of_lt (z20q (cy BK107.out)):gb107≠gb109));have n7_:=Aside0.mk ((by rw [hg];exact Nat.ne_of_gt (z20q (cy BK107.out)):gb109≠gb107));have n8_:=Aside0.mk ((by rw [hg];exact Nat.ne_of_lt (z20q (cy BK108.out)):gb108≠gb109));have n9_:=Aside0.mk ((by rw [hg];exact Nat.ne_of_gt (z20q (cy BK108.out)):gb109≠gb108));clear BK107;clear BK108;clear HB;have BK107:=n0_;have BK108:=n1_;have HB:=n2_;have BK109:=n3_;have GW109:=n4_;have GE109:=n5_;have NB107_109:=n6_;have NB109_107:=n7_;have NB108_109:=n8_;have NB109_108:=n9_;clear n0_ n1_ n2_ n3_ n4_ n5_ n6_ n7_ n8_ n9_;clear hb hbox hg;have hnb5:=NB107_108.out;have hnc5:=NB108_107.out;have hnb6:=NB107_109.out;have hnc6:=NB109_107.out;obtain⟨hcz7_0,hcz7_1,hcz7_2,hcz7_3,hfz7_0,hfz7_1,hfz7_2,hfz7_3⟩:=cr4 (w:=w4) (g:=gb107) BK107.out;have hnb8:=NB109_108.out;have hnc8:=NB108_109.out;obtain⟨hcz9_0,hcz9_1,hcz9_2,hcz9_3,hfz9_0,hfz9_1,hfz9_2,hfz9_3⟩:=cr4 (w:=w4) (g:=gb109) BK109.out;obtain⟨hcz10_0,hcz10_1,hcz10_2,hcz10_3,hfz10_0,hfz10_1,hfz10_2,hfz10_3⟩:=cr4 (w:=w4) (g:=gb108) BK108.out))
 refine bodyPost_ret (results_cell_row rfl _ _ gb108 47 #[.int .i64 a0_0,.int .i64 a0_1,.bool a0_2,.bool a0_3] (0,0) _ rfl (by refine cz ?_;refine z11q (cs:=#[.int .i64 a0_0,.int .i64 a0_1,.bool a0_2,.bool false]) ?_ 3 _ rfl;refine cz ?_;refine z11q (cs:=#[.int .i64 a0_0,.int .i64 a0_1,.bool false,.bool false]) ?_ 2 _ rfl;refine cz ?_;refine z11q (cs:=#[.int .i64 a0_0,.int .i64 0,.bool false,.bool false]) ?_ 1 _ rfl;refine cz ?_;refine z11q (cs:=#[.int .i64 0,.int .i64 0,.bool false,.bool false]) ?_ 0 _ rfl;exact cy BK108.out) Tryz.underlying47 rfl (by kernel_rfl)) rfl ?_
 exact⟨by first|rfl|(simp [errW_none,errW_some]<;>rfl)|(simp [*,errW_none,errW_some]<;>rfl),by repeat(first|(with_reducible first|exact HB.out|apply z2q|apply z3q|apply z4q|refine z7q ?_ GE107.out|refine z7q ?_ GE108.out|refine z7q ?_ GE109.out)|exact HB.out)⟩



/-! ### laws_toNode: function 36 -/

def laws_toNode.f (a0_0:Int) (a0_1:ByteArray) (a0_2:Bool) (a0_3:Int) (a0_4:Int) (a0_5:Int) (a0_6:Int) (a0_7:Bool) (a0_8:Bool) (a0_9:Int) (a0_10:Int) (a0_11:Bool) (a0_12:Bool) (a0_13:Int):Option (Int×ByteArray×Bool×Int×Int×Int×Int×Bool×Bool×Int×Int×Bool×Bool×Int):=(laws_toDec.f a0_2 a0_3 a0_4).bind fun bt113=>((laws_toRef.f a0_5 a0_6 a0_7 a0_8).bind fun bt116=>((laws_toRef.f a0_9 a0_10 a0_11 a0_12).bind fun bt120=>(some (a0_0,a0_1,bt113.1,bt113.2.1,bt113.2.2,bt116.1,bt116.2.1,bt116.2.2.1,bt116.2.2.2,bt120.1,bt120.2.1,bt120.2.2.1,bt120.2.2.2,a0_13))))

set_option maxHeartbeats 8000000 in
set_option maxRecDepth 100000 in
theorem laws_toNode.calls_p1 (a0_0:Int) (a0_1:ByteArray) (a0_2:Bool) (a0_3:Int) (a0_4:Int) (a0_5:Int) (a0_6:Int) (a0_7:Bool) (a0_8:Bool) (a0_9:Int) (a0_10:Int) (a0_11:Bool) (a0_12:Bool) (a0_13:Int) (r1:Int) (r2:ByteArray) (r3:Bool) (r4:Int) (r5:Int) (r6:Int) (r7:Int) (r8:Bool) (r9:Bool) (r10:Int) (r11:Int) (r12:Bool) (r13:Bool) (r14:Int) (w:World) (t113:_) (t114:_) (t115:_) (t116:_) (t117:_) (t118:_) (t119:_) (t120:_) (t121:_) (t122:_) (t123:_) (A2:Aside0 ((laws_toDec.f a0_2 a0_3 a0_4)=some (t113,t114,t115))) (A3:Aside0 ((laws_toRef.f a0_5 a0_6 a0_7 a0_8)=some (t116,t117,t118,t119))) (A4:Aside0 ((laws_toRef.f a0_9 a0_10 a0_11 a0_12)=some (t120,t121,t122,t123))) (H:(some (a0_0,a0_1,t113,t114,t115,t116,t117,t118,t119,t120,t121,t122,t123,a0_13))=some (r1,r2,r3,r4,r5,r6,r7,r8,r9,r10,r11,r12,r13,r14)):
  Calls Tryz.prog 36 #[.agg #[.int .i64 a0_0,.string a0_1,.bool a0_2,.int .i64 a0_3,.int .i64 a0_4,.int .i64 a0_5,.int .i64 a0_6,.bool a0_7,.bool a0_8,.int .i64 a0_9,.int .i64 a0_10,.bool a0_11,.bool a0_12,.int .i64 a0_13]] w fun e w'=>e= .returned (.agg #[.int .i64 r1,.string r2,.bool r3,.int .i64 r4,.int .i64 r5,.int .i64 r6,.int .i64 r7,.bool r8,.bool r9,.int .i64 r10,.int .i64 r11,.bool r12,.bool r13,.int .i64 r14])∧Below w.heap.size w w':=by
 have hu64:=Tryz.underlying64
 have hu67:=Tryz.underlying67
 have hu62:=Tryz.underlying62
 have hu65:=Tryz.underlying65
 have hu41:=Tryz.underlying41
 have hu47:=Tryz.underlying47
 have HB:=Aside0.mk (Below.refl w.heap.size w)
 simp only [Option.some.injEq,Prod.mk.injEq]at H
 obtain⟨rfl,rfl,rfl,rfl,rfl,rfl,rfl,rfl,rfl,rfl,rfl,rfl,rfl,rfl⟩:=H
 go_enter Tryz.func36,Tryz.ntmps36
 go_wp2_with (first|((with_reducible refine z15q (N:=1) rfl ?_);refine z13q ?hg (N:=1) ?hd (cs:=#[.int .i64 a0_0,.string a0_1,.bool a0_2,.int .i64 a0_3,.int .i64 a0_4,.int .i64 a0_5,.int .i64 a0_6,.bool a0_7,.bool a0_8,.int .i64 a0_9,.int .i64 a0_10,.bool a0_11,.bool a0_12,.int .i64 a0_13]) (t:=64) ?hr ?_;(case hd=>rfl);(case hg=>rfl);(case hr=>first|(go_simp;done)|(go_simp;rfl));intro gb110 hg w5 hbox hb;have n0_:=Aside0.mk (z5q (ibh HB.out) hb);have n1_:=Aside0.mk (hbox);have n2_:=Aside0.mk ((by rw [hg];exact(z6q (ibh HB.out)):w.heap.size≤gb110));have n3_:=Aside0.mk ((by rw [hg];exact(z6q (ibh HB.out)):w.heap.size≤gb110));clear HB;have HB:=n0_;have BK110:=n1_;have GW110:=n2_;have GE110:=n3_;clear n0_ n1_ n2_ n3_;clear hb hbox hg)|((with_reducible refine z15q (N:=2) rfl ?_);refine z13q ?hg (N:=2) ?hd (cs:=#[.int .i64 0,.string (⟨#[]⟩:ByteArray),.bool false,.int .i64 0,.int .i64 0,.int .i64 0,.int .i64 0,.bool false,.bool false,.int .i64 0,.int .i64 0,.bool false,.bool false,.int .i64 0]) (t:=67) ?hr ?_;(case hd=>rfl);(case hg=>rfl);(case hr=>first|(go_simp;done)|(go_simp;rfl));intro gb111 hg w6 hbox hb;have n0_:=Aside0.mk (z12q (cy BK110.out) hb);have n1_:=Aside0.mk (z5q (ibh HB.out) hb);have n2_:=Aside0.mk (hbox);have n3_:=Aside0.mk ((by rw [hg];exact(z6q (ibh HB.out)):w.heap.size≤gb111));have n4_:=Aside0.mk ((by rw [hg];exact(z6q (ibh HB.out)):w.heap.size≤gb111));have n5_:=Aside0.mk ((by rw [hg];exact Nat.ne_of_lt (z20q (cy BK110.out)):gb110≠gb111));have n6_:=Aside0.mk ((by rw [hg];exact Nat.ne_of_gt (z20q (cy BK110.out)):gb111≠gb110));clear BK110;clear HB;have BK110:=n0_;have HB:=n1_;have BK111:=n2_;have GW111:=n3_;have GE111:=n4_;have NB110_111:=n5_;have NB111_110:=n6_;clear n0_ n1_ n2_ n3_ n4_ n5_ n6_;clear hb hbox hg)|((with_reducible refine z15q (N:=3) rfl ?_);refine z13q ?hg (N:=3) ?hd (cs:=#[.int .i64 0,.string (⟨#[]⟩:ByteArray),.bool false,.int .i64 0,.int .i64 0,.int .i64 0,.int .i64 0,.bool false,.bool false,.int .i64 0,.int .i64 0,.bool false,.bool false,.int .i64 0]) (t:=67) ?hr ?_;(case hd=>rfl);(case hg=>rfl);(case hr=>first|(go_simp;done)|(go_simp;rfl));intro gb112 hg w7 hbox hb;have n0_:=Aside0.mk (z12q (cy BK110.out) hb);have n1_:=Aside0.mk (z12q (g:=gb111) (o:= .cells #[.int .i64 0,.string (⟨#[]⟩:ByteArray),.bool false,.int .i64 0,.int .i64 0,.int .i64 0,.int .i64 0,.bool false,.bool false,.int .i64 0,.int .i64 0,.bool false,.bool false,.int .i64 0] 67 (0,0)) (cy BK111.out) hb);have n2_:=Aside0.mk (z5q (ibh HB.out) hb);have n3_:=Aside0.mk (hbox);have n4_:=Aside0.mk ((by rw [hg];exact(z6q (ibh HB.out)):w.heap.size≤gb112));have n5_:=Aside0.mk ((by rw [hg];exact(z6q (ibh HB.out)):w.heap.size≤gb112));have n6_:=Aside0.mk ((by rw [hg];exact Nat.ne_of_lt (z20q (cy BK110.out)):gb110≠gb112));have n7_:=Aside0.mk ((by rw [hg];exact Nat.ne_of_gt (z20q (cy BK110.out)):gb112≠gb110));have n8_:=Aside0.mk ((by rw [hg];exact Nat.ne_of_lt (z20q (g:=gb111) (o:= .cells #[.int .i64 0,.string (⟨#[]⟩:ByteArray),.bool false,.int .i64 0,.int .i64 0,.int .i64 0,.int .i64 0,.bool false,.bool false,.int .i64 0,.int .i64 0,.bool false,.bool false,.int .i64 0] 67 (0,0)) (cy BK111.out)):gb111≠gb112));have n9_:=Aside0.mk ((by rw [hg];exact Nat.ne_of_gt (z20q (g:=gb111) (o:= .cells #[.int .i64 0,.string (⟨#[]⟩:ByteArray),.bool false,.int .i64 0,.int .i64 0,.int .i64 0,.int .i64 0,.bool false,.bool false,.int .i64 0,.int .i64 0,.bool false,.bool false,.int .i64 0] 67 (0,0)) (cy BK111.out)):gb112≠gb111));clear BK110;clear BK111;clear HB;have BK110:=n0_;have BK111:=n1_;have HB:=n2_;have BK112:=n3_;have GW112:=n4_;have GE112:=n5_;have NB110_112:=n6_;have NB112_110:=n7_;have NB111_112:=n8_;have NB112_111:=n9_;clear n0_ n1_ n2_ n3_ n4_ n5_ n6_ n7_ n8_ n9_;clear hb hbox hg;have hnb8:=NB110_111.out;have hnc8:=NB111_110.out;have hnb9:=NB110_112.out;have hnc9:=NB112_110.out;obtain⟨hcz10_0,hcz10_1,hcz10_2,hcz10_3,hcz10_4,hcz10_5,hcz10_6,hcz10_7,hcz10_8,hcz10_9,hcz10_10,hcz10_11,hcz10_12,hcz10_13,hfz10_0,hfz10_1,hfz10_2,hfz10_3,hfz10_4,hfz10_5,hfz10_6,hfz10_7,hfz10_8,hfz10_9,hfz10_10,hfz10_11,hfz10_12,hfz10_13⟩:=cr14 (w:=w7) (g:=gb110) BK110.out;have hnb11:=NB112_111.out;have hnc11:=NB111_112.out;obtain⟨hcz12_0,hcz12_1,hcz12_2,hcz12_3,hcz12_4,hcz12_5,hcz12_6,hcz12_7,hcz12_8,hcz12_9,hcz12_10,hcz12_11,hcz12_12,hcz12_13,hfz12_0,hfz12_1,hfz12_2,hfz12_3,hfz12_4,hfz12_5,hfz12_6,hfz12_7,hfz12_8,hfz12_9,hfz12_10,hfz12_11,hfz12_12,hfz12_13⟩:=cr14 (w:=w7) (g:=gb112) BK112.out)|((with_reducible refine z8q (f:=72) rfl ?_);refine z17q (some 12) rfl rfl Tryz.func72 (by kernel_rfl) rfl #[.agg #[.bool a0_2,.int .i64 a0_3,.int .i64 a0_4]] rfl (by(try simp only [map_toArray,map_cons,map_nil]);first|done|rfl|(simp only [length_drop,length_take];rfl)) ?_;(with_reducible refine(laws_toDec.calls a0_2 a0_3 a0_4 t113 t114 t115 _ A2.out).mono ?_);rintro e w13 ⟨rfl,hb⟩;refine⟨_,rfl,?_⟩;have n0_:=Aside0.mk (z12q (cy BK110.out) hb);have n1_:=Aside0.mk (z12q (g:=gb111) (o:= .cells #[.int .i64 0,.string (⟨#[]⟩:ByteArray),.bool false,.int .i64 0,.int .i64 0,.int .i64 0,.int .i64 0,.bool false,.bool false,.int .i64 0,.int .i64 0,.bool false,.bool false,.int .i64 0] 67 (0,0)) (cy BK111.out) hb);have n2_:=Aside0.mk (z12q (g:=gb112) (o:= .cells #[.int .i64 a0_0,.string a0_1,.bool false,.int .i64 0,.int .i64 0,.int .i64 0,.int .i64 0,.bool false,.bool false,.int .i64 0,.int .i64 0,.bool false,.bool false,.int .i64 0] 67 (0,0)) (by refine cz ?_;refine z11q (cs:=#[.int .i64 a0_0,.string (⟨#[]⟩:ByteArray),.bool false,.int .i64 0,.int .i64 0,.int .i64 0,.int .i64 0,.bool false,.bool false,.int .i64 0,.int .i64 0,.bool false,.bool false,.int .i64 0]) ?_ 1 _ rfl;refine cz ?_;refine z11q (cs:=#[.int .i64 0,.string (⟨#[]⟩:ByteArray),.bool false,.int .i64 0,.int .i64 0,.int .i64 0,.int .i64 0,.bool false,.bool false,.int .i64 0,.int .i64 0,.bool false,.bool false,.int .i64 0]) ?_ 0 _ rfl;exact cy BK112.out) hb);have n3_:=Aside0.mk (z5q (ibh HB.out) hb);clear BK110;clear BK111;clear BK112;clear HB;have BK110:=n0_;have BK111:=n1_;have BK112:=n2_;have HB:=n3_;clear n0_ n1_ n2_ n3_;(try clear hb);(try clear hb2);(try clear hk);(try clear hi);obtain⟨hcz14_0,hcz14_1,hcz14_2,hcz14_3,hcz14_4,hcz14_5,hcz14_6,hcz14_7,hcz14_8,hcz14_9,hcz14_10,hcz14_11,hcz14_12,hcz14_13,hfz14_0,hfz14_1,hfz14_2,hfz14_3,hfz14_4,hfz14_5,hfz14_6,hfz14_7,hfz14_8,hfz14_9,hfz14_10,hfz14_11,hfz14_12,hfz14_13⟩:=cr14 (w:=w13) (g:=gb112) BK112.out;obtain⟨hcz15_0,hcz15_1,hcz15_2,hcz15_3,hcz15_4,hcz15_5,hcz15_6,hcz15_7,hcz15_8,hcz15_9,hcz15_10,hcz15_11,hcz15_12,hcz15_13,hfz15_0,hfz15_1,hfz15_2,hfz15_3,hfz15_4,hfz15_5,hfz15_6,hfz15_7,hfz15_8,hfz15_9,hfz15_10,hfz15_11,hfz15_12,hfz15_13⟩:=cr14 (w:=w13) (g:=gb110) BK110.out)|((with_reducible refine z8q (f:=73) rfl ?_);refine z17q (some 16) rfl rfl Tryz.func73 (by kernel_rfl) rfl #[.agg #[.int .i64 a0_5,.int .i64 a0_6,.bool a0_7,.bool a0_8]] rfl (by(try simp only [map_toArray,map_cons,map_nil]);first|done|rfl|(simp only [length_drop,length_take];rfl)) ?_;(with_reducible refine(laws_toRef.calls a0_5 a0_6 a0_7 a0_8 t116 t117 t118 t119 _ A3.out).mono ?_);rintro e w16 ⟨rfl,hb⟩;refine⟨_,rfl,?_⟩;have n0_:=Aside0.mk (z12q (cy BK110.out) hb);have n1_:=Aside0.mk (z12q (g:=gb111) (o:= .cells #[.int .i64 0,.string (⟨#[]⟩:ByteArray),.bool false,.int .i64 0,.int .i64 0,.int .i64 0,.int .i64 0,.bool false,.bool false,.int .i64 0,.int .i64 0,.bool false,.bool false,.int .i64 0] 67 (0,0)) (cy BK111.out) hb);have n2_:=Aside0.mk (z12q (g:=gb112) (o:= .cells #[.int .i64 a0_0,.string a0_1,.bool t113,.int .i64 t114,.int .i64 t115,.int .i64 0,.int .i64 0,.bool false,.bool false,.int .i64 0,.int .i64 0,.bool false,.bool false,.int .i64 0] 67 (0,0)) (by refine cz ?_;refine z11q (cs:=#[.int .i64 a0_0,.string a0_1,.bool t113,.int .i64 t114,.int .i64 0,.int .i64 0,.int .i64 0,.bool false,.bool false,.int .i64 0,.int .i64 0,.bool false,.bool false,.int .i64 0]) ?_ 4 _ rfl;refine cz ?_;refine z11q (cs:=#[.int .i64 a0_0,.string a0_1,.bool t113,.int .i64 0,.int .i64 0,.int .i64 0,.int .i64 0,.bool false,.bool false,.int .i64 0,.int .i64 0,.bool false,.bool false,.int .i64 0]) ?_ 3 _ rfl;refine cz ?_;refine z11q (cs:=#[.int .i64 a0_0,.string a0_1,.bool false,.int .i64 0,.int .i64 0,.int .i64 0,.int .i64 0,.bool false,.bool false,.int .i64 0,.int .i64 0,.bool false,.bool false,.int .i64 0]) ?_ 2 _ rfl;exact cy BK112.out) hb);have n3_:=Aside0.mk (z5q (ibh HB.out) hb);clear BK110;clear BK111;clear BK112;clear HB;have BK110:=n0_;have BK111:=n1_;have BK112:=n2_;have HB:=n3_;clear n0_ n1_ n2_ n3_;(try clear hb);(try clear hb2);(try clear hk);(try clear hi);obtain⟨hcz17_0,hcz17_1,hcz17_2,hcz17_3,hcz17_4,hcz17_5,hcz17_6,hcz17_7,hcz17_8,hcz17_9,hcz17_10,hcz17_11,hcz17_12,hcz17_13,hfz17_0,hfz17_1,hfz17_2,hfz17_3,hfz17_4,hfz17_5,hfz17_6,hfz17_7,hfz17_8,hfz17_9,hfz17_10,hfz17_11,hfz17_12,hfz17_13⟩:=cr14 (w:=w16) (g:=gb112) BK112.out;obtain⟨hcz18_0,hcz18_1,hcz18_2,hcz18_3,hcz18_4,hcz18_5,hcz18_6,hcz18_7,hcz18_8,hcz18_9,hcz18_10,hcz18_11,hcz18_12,hcz18_13,hfz18_0,hfz18_1,hfz18_2,hfz18_3,hfz18_4,hfz18_5,hfz18_6,hfz18_7,hfz18_8,hfz18_9,hfz18_10,hfz18_11,hfz18_12,hfz18_13⟩:=cr14 (w:=w16) (g:=gb110) BK110.out)|((with_reducible refine z8q (f:=73) rfl ?_);refine z17q (some 20) rfl rfl Tryz.func73 (by kernel_rfl) rfl #[.agg #[.int .i64 a0_9,.int .i64 a0_10,.bool a0_11,.bool a0_12]] rfl (by(try simp only [map_toArray,map_cons,map_nil]);first|done|rfl|(simp only [length_drop,length_take];rfl)) ?_;(with_reducible refine(laws_toRef.calls a0_9 a0_10 a0_11 a0_12 t120 t121 t122 t123 _ A4.out).mono ?_);rintro e w19 ⟨rfl,hb⟩;refine⟨_,rfl,?_⟩;have n0_:=Aside0.mk (z12q (cy BK110.out) hb);have n1_:=Aside0.mk (z12q (g:=gb111) (o:= .cells #[.int .i64 0,.string (⟨#[]⟩:ByteArray),.bool false,.int .i64 0,.int .i64 0,.int .i64 0,.int .i64 0,.bool false,.bool false,.int .i64 0,.int .i64 0,.bool false,.bool false,.int .i64 0] 67 (0,0)) (cy BK111.out) hb);have n2_:=Aside0.mk (z12q (g:=gb112) (o:= .cells #[.int .i64 a0_0,.string a0_1,.bool t113,.int .i64 t114,.int .i64 t115,.int .i64 t116,.int .i64 t117,.bool t118,.bool t119,.int .i64 0,.int .i64 0,.bool false,.bool false,.int .i64 0] 67 (0,0)) (by refine cz ?_;refine z11q (cs:=#[.int .i64 a0_0,.string a0_1,.bool t113,.int .i64 t114,.int .i64 t115,.int .i64 t116,.int .i64 t117,.bool t118,.bool false,.int .i64 0,.int .i64 0,.bool false,.bool false,.int .i64 0]) ?_ 8 _ rfl;refine cz ?_;refine z11q (cs:=#[.int .i64 a0_0,.string a0_1,.bool t113,.int .i64 t114,.int .i64 t115,.int .i64 t116,.int .i64 t117,.bool false,.bool false,.int .i64 0,.int .i64 0,.bool false,.bool false,.int .i64 0]) ?_ 7 _ rfl;refine cz ?_;refine z11q (cs:=#[.int .i64 a0_0,.string a0_1,.bool t113,.int .i64 t114,.int .i64 t115,.int .i64 t116,.int .i64 0,.bool false,.bool false,.int .i64 0,.int .i64 0,.bool false,.bool false,.int .i64 0]) ?_ 6 _ rfl;refine cz ?_;refine z11q (cs:=#[.int .i64 a0_0,.string a0_1,.bool t113,.int .i64 t114,.int .i64 t115,.int .i64 0,.int .i64 0,.bool false,.bool false,.int .i64 0,.int .i64 0,.bool false,.bool false,.int .i64 0]) ?_ 5 _ rfl;exact cy BK112.out) hb);have n3_:=Aside0.mk (z5q (ibh HB.out) hb);clear BK110;clear BK111;clear BK112;clear HB;have BK110:=n0_;have BK111:=n1_;have BK112:=n2_;have HB:=n3_;clear n0_ n1_ n2_ n3_;(try clear hb);(try clear hb2);(try clear hk);(try clear hi);obtain⟨hcz20_0,hcz20_1,hcz20_2,hcz20_3,hcz20_4,hcz20_5,hcz20_6,hcz20_7,hcz20_8,hcz20_9,hcz20_10,hcz20_11,hcz20_12,hcz20_13,hfz20_0,hfz20_1,hfz20_2,hfz20_3,hfz20_4,hfz20_5,hfz20_6,hfz20_7,hfz20_8,hfz20_9,hfz20_10,hfz20_11,hfz20_12,hfz20_13⟩:=cr14 (w:=w19) (g:=gb112) BK112.out;obtain⟨hcz21_0,hcz21_1,hcz21_2,hcz21_3,hcz21_4,hcz21_5,hcz21_6,hcz21_7,hcz21_8,hcz21_9,hcz21_10,hcz21_11,hcz21_12,hcz21_13,hfz21_0,hfz21_1,hfz21_2,hfz21_3,hfz21_4,hfz21_5,hfz21_6,hfz21_7,hfz21_8,hfz21_9,hfz21_10,hfz21_11,hfz21_12,hfz21_13⟩:=cr14 (w:=w19) (g:=gb110) BK110.out;obtain⟨hcz22_0,hcz22_1,hcz22_2,hcz22_3,hcz22_4,hcz22_5,hcz22_6,hcz22_7,hcz22_8,hcz22_9,hcz22_10,hcz22_11,hcz22_12,hcz22_13,hfz22_0,hfz22_1,hfz22_2,hfz22_3,hfz22_4,hfz22_5,hfz22_6,hfz22_7,hfz22_8,hfz22_9,hfz22_10,hfz22_11,hfz22_12,hfz22_13⟩:=cr14 (w:=w19) (g:=gb111) BK111.out))
 refine bodyPost_ret (results_cell_row rfl _ _ gb111 67 #[.int .i64 a0_0,.string a0_1,.bool t113,.int .i64 t114,.int .i64 t115,.int .i64 t116,.int .i64 t117,.bool t118,.bool t119,.int .i64 t120,.int .i64 t121,.bool t122,.bool t123,.int .i64 a0_13] (0,0) _ rfl (by refine cz ?_;refine z11q (cs:=#[.int .i64 a0_0,.string a0_1,.bool t113,.int .i64 t114,.int .i64 t115,.int .i64 t116,.int .i64 t117,.bool t118,.bool t119,.int .i64 t120,.int .i64 t121,.bool t122,.bool t123,.int .i64 0]) ?_ 13 _ rfl;refine cz ?_;refine z11q (cs:=#[.int .i64 a0_0,.string a0_1,.bool t113,.int .i64 t114,.int .i64 t115,.int .i64 t116,.int .i64 t117,.bool t118,.bool t119,.int .i64 t120,.int .i64 t121,.bool t122,.bool false,.int .i64 0]) ?_ 12 _ rfl;refine cz ?_;refine z11q (cs:=#[.int .i64 a0_0,.string a0_1,.bool t113,.int .i64 t114,.int .i64 t115,.int .i64 t116,.int .i64 t117,.bool t118,.bool t119,.int .i64 t120,.int .i64 t121,.bool false,.bool false,.int .i64 0]) ?_ 11 _ rfl;refine cz ?_;refine z11q (cs:=#[.int .i64 a0_0,.string a0_1,.bool t113,.int .i64 t114,.int .i64 t115,.int .i64 t116,.int .i64 t117,.bool t118,.bool t119,.int .i64 t120,.int .i64 0,.bool false,.bool false,.int .i64 0]) ?_ 10 _ rfl;refine cz ?_;refine z11q (cs:=#[.int .i64 a0_0,.string a0_1,.bool t113,.int .i64 t114,.int .i64 t115,.int .i64 t116,.int .i64 t117,.bool t118,.bool t119,.int .i64 0,.int .i64 0,.bool false,.bool false,.int .i64 0]) ?_ 9 _ rfl;refine cz ?_;refine z11q (cs:=#[.int .i64 a0_0,.string a0_1,.bool t113,.int .i64 t114,.int .i64 t115,.int .i64 t116,.int .i64 t117,.bool t118,.bool false,.int .i64 0,.int .i64 0,.bool false,.bool false,.int .i64 0]) ?_ 8 _ rfl;refine cz ?_;refine z11q (cs:=#[.int .i64 a0_0,.string a0_1,.bool t113,.int .i64 t114,.int .i64 t115,.int .i64 t116,.int .i64 t117,.bool false,.bool false,.int .i64 0,.int .i64 0,.bool false,.bool false,.int .i64 0]) ?_ 7 _ rfl;refine cz ?_;refine z11q (cs:=#[.int .i64 a0_0,.string a0_1,.bool t113,.int .i64 t114,.int .i64 t115,.int .i64 t116,.int .i64 0,.bool false,.bool false,.int .i64 0,.int .i64 0,.bool false,.bool false,.int .i64 0]) ?_ 6 _ rfl;refine cz ?_;refine z11q (cs:=#[.int .i64 a0_0,.string a0_1,.bool t113,.int .i64 t114,.int .i64 t115,.int .i64 0,.int .i64 0,.bool false,.bool false,.int .i64 0,.int .i64 0,.bool false,.bool false,.int .i64 0]) ?_ 5 _ rfl;refine cz ?_;refine z11q (cs:=#[.int .i64 a0_0,.string a0_1,.bool t113,.int .i64 t114,.int .i64 0,.int .i64 0,.int .i64 0,.bool false,.bool false,.int .i64 0,.int .i64 0,.bool false,.bool false,.int .i64 0]) ?_ 4 _ rfl;refine cz ?_;refine z11q (cs:=#[.int .i64 a0_0,.string a0_1,.bool t113,.int .i64 0,.int .i64 0,.int .i64 0,.int .i64 0,.bool false,.bool false,.int .i64 0,.int .i64 0,.bool false,.bool false,.int .i64 0]) ?_ 3 _ rfl;refine cz ?_;refine z11q (cs:=#[.int .i64 a0_0,.string a0_1,.bool false,.int .i64 0,.int .i64 0,.int .i64 0,.int .i64 0,.bool false,.bool false,.int .i64 0,.int .i64 0,.bool false,.bool false,.int .i64 0]) ?_ 2 _ rfl;refine cz ?_;refine z11q (cs:=#[.int .i64 a0_0,.string (⟨#[]⟩:ByteArray),.bool false,.int .i64 0,.int .i64 0,.int .i64 0,.int .i64 0,.bool false,.bool false,.int .i64 0,.int .i64 0,.bool false,.bool false,.int .i64 0]) ?_ 1 _ rfl;refine cz ?_;refine z11q (cs:=#[.int .i64 0,.string (⟨#[]⟩:ByteArray),.bool false,.int .i64 0,.int .i64 0,.int .i64 0,.int .i64 0,.bool false,.bool false,.int .i64 0,.int .i64 0,.bool false,.bool false,.int .i64 0]) ?_ 0 _ rfl;exact cy BK111.out) Tryz.underlying67 rfl (by kernel_rfl)) rfl ?_
 exact⟨by first|rfl|(simp [errW_none,errW_some]<;>rfl)|(simp [*,errW_none,errW_some]<;>rfl),by repeat(first|(with_reducible first|exact HB.out|apply z2q|apply z3q|apply z4q|refine z7q ?_ GE110.out|refine z7q ?_ GE111.out|refine z7q ?_ GE112.out)|exact HB.out)⟩

set_option maxHeartbeats 8000000 in
set_option maxRecDepth 100000 in
theorem laws_toNode.calls (a0_0:Int) (a0_1:ByteArray) (a0_2:Bool) (a0_3:Int) (a0_4:Int) (a0_5:Int) (a0_6:Int) (a0_7:Bool) (a0_8:Bool) (a0_9:Int) (a0_10:Int) (a0_11:Bool) (a0_12:Bool) (a0_13:Int) (r1:Int) (r2:ByteArray) (r3:Bool) (r4:Int) (r5:Int) (r6:Int) (r7:Int) (r8:Bool) (r9:Bool) (r10:Int) (r11:Int) (r12:Bool) (r13:Bool) (r14:Int) (w:World) (h:laws_toNode.f a0_0 a0_1 a0_2 a0_3 a0_4 a0_5 a0_6 a0_7 a0_8 a0_9 a0_10 a0_11 a0_12 a0_13=some (r1,r2,r3,r4,r5,r6,r7,r8,r9,r10,r11,r12,r13,r14)):
  Calls Tryz.prog 36 #[.agg #[.int .i64 a0_0,.string a0_1,.bool a0_2,.int .i64 a0_3,.int .i64 a0_4,.int .i64 a0_5,.int .i64 a0_6,.bool a0_7,.bool a0_8,.int .i64 a0_9,.int .i64 a0_10,.bool a0_11,.bool a0_12,.int .i64 a0_13]] w fun e w'=>e= .returned (.agg #[.int .i64 r1,.string r2,.bool r3,.int .i64 r4,.int .i64 r5,.int .i64 r6,.int .i64 r7,.bool r8,.bool r9,.int .i64 r10,.int .i64 r11,.bool r12,.bool r13,.int .i64 r14])∧Below w.heap.size w w':=by
 have H:((laws_toDec.f a0_2 a0_3 a0_4).bind fun bt113=>((laws_toRef.f a0_5 a0_6 a0_7 a0_8).bind fun bt116=>((laws_toRef.f a0_9 a0_10 a0_11 a0_12).bind fun bt120=>(some (a0_0,a0_1,bt113.1,bt113.2.1,bt113.2.2,bt116.1,bt116.2.1,bt116.2.2.1,bt116.2.2.2,bt120.1,bt120.2.1,bt120.2.2.1,bt120.2.2.2,a0_13)))))=some (r1,r2,r3,r4,r5,r6,r7,r8,r9,r10,r11,r12,r13,r14):=h
 replace H:=Option.bind_eq_some_iff.mp H
 obtain⟨⟨t113,t114,t115⟩,A20,H⟩:=H
 replace H:((laws_toRef.f a0_5 a0_6 a0_7 a0_8).bind fun bt116=>((laws_toRef.f a0_9 a0_10 a0_11 a0_12).bind fun bt120=>(some (a0_0,a0_1,t113,t114,t115,bt116.1,bt116.2.1,bt116.2.2.1,bt116.2.2.2,bt120.1,bt120.2.1,bt120.2.2.1,bt120.2.2.2,a0_13))))=some (r1,r2,r3,r4,r5,r6,r7,r8,r9,r10,r11,r12,r13,r14):=H
 have A2:=Aside0.mk A20
 clear A20
 replace H:=Option.bind_eq_some_iff.mp H
 obtain⟨⟨t116,t117,t118,t119⟩,A30,H⟩:=H
 replace H:((laws_toRef.f a0_9 a0_10 a0_11 a0_12).bind fun bt120=>(some (a0_0,a0_1,t113,t114,t115,t116,t117,t118,t119,bt120.1,bt120.2.1,bt120.2.2.1,bt120.2.2.2,a0_13)))=some (r1,r2,r3,r4,r5,r6,r7,r8,r9,r10,r11,r12,r13,r14):=H
 have A3:=Aside0.mk A30
 clear A30
 replace H:=Option.bind_eq_some_iff.mp H
 obtain⟨⟨t120,t121,t122,t123⟩,A40,H⟩:=H
 replace H:(some (a0_0,a0_1,t113,t114,t115,t116,t117,t118,t119,t120,t121,t122,t123,a0_13))=some (r1,r2,r3,r4,r5,r6,r7,r8,r9,r10,r11,r12,r13,r14):=H
 have A4:=Aside0.mk A40
 clear A40
 exact laws_toNode.calls_p1 a0_0 a0_1 a0_2 a0_3 a0_4 a0_5 a0_6 a0_7 a0_8 a0_9 a0_10 a0_11 a0_12 a0_13 r1 r2 r3 r4 r5 r6 r7 r8 r9 r10 r11 r12 r13 r14 w t113 t114 t115 t116 t117 t118 t119 t120 t121 t122 t123 A2 A3 A4 H

/-! ### laws_toNodeS: function 11 -/

def laws_toNodeS.l0:Nat→List (S64)→List (S67)→Int→Option ((List (S67)))
 |0,_,_,_=>none
 |k+1,x0,x3,x4=>if x4<(x0.length:Int)then(if 0≤x4 then((laws_toNode.f ((rd_T64 x0 x4).f0) ((rd_T64 x0 x4).f1) ((rd_T64 x0 x4).f2.f0) ((rd_T64 x0 x4).f2.f1) ((rd_T64 x0 x4).f2.f2) ((rd_T64 x0 x4).f3.f0) ((rd_T64 x0 x4).f3.f1) ((rd_T64 x0 x4).f3.f2) ((rd_T64 x0 x4).f3.f3) ((rd_T64 x0 x4).f4.f0) ((rd_T64 x0 x4).f4.f1) ((rd_T64 x0 x4).f4.f2) ((rd_T64 x0 x4).f4.f3) ((rd_T64 x0 x4).f5)).bind fun bt128=>(if x4<(x3.length:Int)then(laws_toNodeS.l0 k x0 (x3.set (x4:Int).toNat (⟨bt128.1,bt128.2.1,(⟨bt128.2.2.1,bt128.2.2.2.1,bt128.2.2.2.2.1⟩:S65),(⟨bt128.2.2.2.2.2.1,bt128.2.2.2.2.2.2.1,bt128.2.2.2.2.2.2.2.1,bt128.2.2.2.2.2.2.2.2.1⟩:S47),(⟨bt128.2.2.2.2.2.2.2.2.2.1,bt128.2.2.2.2.2.2.2.2.2.2.1,bt128.2.2.2.2.2.2.2.2.2.2.2.1,bt128.2.2.2.2.2.2.2.2.2.2.2.2.1⟩:S47),bt128.2.2.2.2.2.2.2.2.2.2.2.2.2⟩:S67)) (wrap64 (x4+1)))else(none)))else(none))else(some x3)

def laws_toNodeS.f (k:Nat) (l0:List (S64)):Option ((List (S67))):=if 0≤(l0.length:Int)then(if((l0.length:Int):Int).toNat≤2706490160679 then(laws_toNodeS.l0 k l0 (List.replicate ((l0.length:Int):Int).toNat z67) 0)else(none))else(none)

end Go.Proofs.YtegdpgpbdcediaaGreatDoor.PFnExactUsedNames
