/- Functions of the program as Lean functions, and proofs that the Go code comes to their answers: for the law FnExactGoodFormula; made out of the print by a program of mine (compact.py). No conditions but each theorem's own. -/
import Derived.Test.YtegdpgpbdcediaaGreatDoorProg
import Derived.Below
import Derived.Deep.Draws
import Derived.Deep.AppendLies
import Derived.Maps.AppendAt
import Derived.OwnWalk
import Derived.Laws.BytesArg
import Derived.Laws.MakeOwn
import Derived.Laws.OwnMore
import Derived.Deep.OwnRows
import Derived.Tactics
import Derived.Lib.ConvBytes
import Derived.Laws.Slices
import Derived.WalkKit
import Derived.KernelRfl
import Derived.RowKit3
import Derived.Deep.LoopGhost
import Derived.Deep.QuietTactic
import Derived.BigQuiet
import Derived.WideLaws
import Derived.Deep.DeepCutAuto
import Derived.Deep.CutBlock
import Derived.Deep.RegionHeld3
import Derived.Laws.Rows
import Derived.Lib.AppendStr
import Derived.ArgAppend
import Derived.Laws.IdiomCopy
import Derived.OrdersHeld
import Derived.Laws.BitsLemmas
import Derived.RowKit
import Derived.Test.YtegdpgpbdcediaaGreatDoorVFnExactGoodFormula
import Derived.IntWalk
import Derived.Lib.AtoiTie
import Derived.Lib.Hide
import Derived.Lib.ItoaLen
import Derived.OwnWalk
import Derived.Shelf.Strconv.ErrVarAll
import Derived.Shelf.Strconv.Itoa3
import Derived.Shelf.Strings.Prefix
namespace Go.Proofs.YtegdpgpbdcediaaGreatDoor.PFnExactGoodFormula
open List (map_toArray map_cons map_nil length_drop length_take set_cons_zero set_cons_succ setIfInBounds_toArray)
open Go.RowKit Go.Proofs.YtegdpgpbdcediaaGreatDoorW.PrintWords Go.Proofs.YtegdpgpbdcediaaGreatDoorW.PrintLast Go.Proofs.YtegdpgpbdcediaaGreatDoorW.PrintMore
attribute [local go_sem] max2_int min2_int max_two min_two max_three min_three max_four min_four   -- for this text's walks alone
set_option linter.unusedVariables false
set_option linter.unusedSimpArgs false




def errW : Option Int → Value
 | none => .nilIface
 | some c => .iface 153 (.int .i64 c)
theorem errW_none : errW none = .nilIface := rfl
theorem errW_some (c : Int) : errW (some c) = .iface 153 (.int .i64 c) := rfl

theorem info67 : (Tryz.prog.info? 67).map (fun i => (i.zero, i.size, i.bytes)) = some (some (.agg #[(.int .i64 0), (.string ⟨#[]⟩), (.bool false), (.int .i64 0), (.int .i64 0), (.int .i64 0), (.int .i64 0), (.bool false), (.bool false), (.int .i64 0), (.int .i64 0), (.bool false), (.bool false), (.int .i64 0)]), 14, 104) := by kernel_rfl
theorem info70 : (Tryz.prog.info? 70).map (fun i => (i.zero, i.size, i.bytes)) = some (some (.agg #[(.int .i64 0), (.string ⟨#[]⟩), (.bool false), (.int .i64 0), (.int .i64 0), (.int .i64 0), (.int .i64 0), (.bool false), (.bool false), (.int .i64 0), (.int .i64 0), (.bool false), (.bool false), (.int .i64 0), (.slice none 0 0)]), 15, 128) := by kernel_rfl
-- the values' own types
/-! #### struct type 62 -/
structure S62 where
 f0 : Bool
 f1 : Int
 f2 : Int
def z62 : S62 := ⟨false, (0 : Int), (0 : Int)⟩
def k62 : Kd S62 := Kd.iso (Kd.pair Kd.bool (Kd.pair (Kd.int .i64) (Kd.int .i64))) (fun x : S62 => (x.f0, x.f1, x.f2))
theorem k62_open {w : World} {x : S62} {cs : List Value} (h : k62.K w x cs) : cs = [.bool x.f0, .int .i64 x.f1, .int .i64 x.f2] := by
 obtain ⟨_, _, rfl, rfl, ⟨_, _, rfl, rfl, rfl⟩⟩ := h
 exact rfl
def rd_T62 (xs : List S62) (i : Int) : S62 := xs.getD i.toNat z62
/-! #### struct type 41 -/
structure S41 where
 f0 : Int
 f1 : Int
 f2 : Bool
 f3 : Bool
def z41 : S41 := ⟨(0 : Int), (0 : Int), false, false⟩
def k41 : Kd S41 := Kd.iso (Kd.pair (Kd.int .i64) (Kd.pair (Kd.int .i64) (Kd.pair Kd.bool Kd.bool))) (fun x : S41 => (x.f0, x.f1, x.f2, x.f3))
theorem k41_open {w : World} {x : S41} {cs : List Value} (h : k41.K w x cs) : cs = [.int .i64 x.f0, .int .i64 x.f1, .bool x.f2, .bool x.f3] := by
 obtain ⟨_, _, rfl, rfl, ⟨_, _, rfl, rfl, ⟨_, _, rfl, rfl, rfl⟩⟩⟩ := h
 exact rfl
def rd_T41 (xs : List S41) (i : Int) : S41 := xs.getD i.toNat z41
/-! #### struct type 64 -/
structure S64 where
 f0 : Int
 f1 : ByteArray
 f2 : S62
 f3 : S41
 f4 : S41
 f5 : Int
def z64 : S64 := ⟨(0 : Int), (⟨#[]⟩ : ByteArray), z62, z41, z41, (0 : Int)⟩
def k64 : Kd S64 := Kd.iso (Kd.pair (Kd.int .i64) (Kd.pair Kd.string (Kd.pair k62 (Kd.pair k41 (Kd.pair k41 (Kd.int .i64)))))) (fun x : S64 => (x.f0, x.f1, x.f2, x.f3, x.f4, x.f5))
theorem k64_open {w : World} {x : S64} {cs : List Value} (h : k64.K w x cs) : cs = [.int .i64 x.f0, .string x.f1, .bool x.f2.f0, .int .i64 x.f2.f1, .int .i64 x.f2.f2, .int .i64 x.f3.f0, .int .i64 x.f3.f1, .bool x.f3.f2, .bool x.f3.f3, .int .i64 x.f4.f0, .int .i64 x.f4.f1, .bool x.f4.f2, .bool x.f4.f3, .int .i64 x.f5] := by
 obtain ⟨_, _, rfl, rfl, ⟨_, _, rfl, rfl, ⟨_, _, rfl, s2, ⟨_, _, rfl, s5, ⟨_, _, rfl, s9, rfl⟩⟩⟩⟩⟩ := h
 obtain rfl := k62_open s2
 obtain rfl := k41_open s5
 obtain rfl := k41_open s9
 exact rfl
def rd_T64 (xs : List S64) (i : Int) : S64 := xs.getD i.toNat z64
theorem at_T64 {w : World} {A : Option Addr} {n : Nat} {xs : List S64} (h : Kd.C k64 w A n xs) (i : Int) (h0 : 0 ≤ i) (h1 : i < n) : ∃ ad , A = some ad ∧ w.cell? (ad.add (i.toNat * 14)) = some (.int .i64 (rd_T64 xs i).f0) ∧ w.cell? ⟨(ad.add (i.toNat * 14)).block, (ad.add (i.toNat * 14)).off + 1, none⟩ = some (.string (rd_T64 xs i).f1) ∧ w.cell? ⟨(ad.add (i.toNat * 14)).block, (ad.add (i.toNat * 14)).off + 2, none⟩ = some (.bool (rd_T64 xs i).f2.f0) ∧ w.cell? ⟨(ad.add (i.toNat * 14)).block, (ad.add (i.toNat * 14)).off + 3, none⟩ = some (.int .i64 (rd_T64 xs i).f2.f1) ∧ w.cell? ⟨(ad.add (i.toNat * 14)).block, (ad.add (i.toNat * 14)).off + 4, none⟩ = some (.int .i64 (rd_T64 xs i).f2.f2) ∧ w.cell? ⟨(ad.add (i.toNat * 14)).block, (ad.add (i.toNat * 14)).off + 5, none⟩ = some (.int .i64 (rd_T64 xs i).f3.f0) ∧ w.cell? ⟨(ad.add (i.toNat * 14)).block, (ad.add (i.toNat * 14)).off + 6, none⟩ = some (.int .i64 (rd_T64 xs i).f3.f1) ∧ w.cell? ⟨(ad.add (i.toNat * 14)).block, (ad.add (i.toNat * 14)).off + 7, none⟩ = some (.bool (rd_T64 xs i).f3.f2) ∧ w.cell? ⟨(ad.add (i.toNat * 14)).block, (ad.add (i.toNat * 14)).off + 8, none⟩ = some (.bool (rd_T64 xs i).f3.f3) ∧ w.cell? ⟨(ad.add (i.toNat * 14)).block, (ad.add (i.toNat * 14)).off + 9, none⟩ = some (.int .i64 (rd_T64 xs i).f4.f0) ∧ w.cell? ⟨(ad.add (i.toNat * 14)).block, (ad.add (i.toNat * 14)).off + 10, none⟩ = some (.int .i64 (rd_T64 xs i).f4.f1) ∧ w.cell? ⟨(ad.add (i.toNat * 14)).block, (ad.add (i.toNat * 14)).off + 11, none⟩ = some (.bool (rd_T64 xs i).f4.f2) ∧ w.cell? ⟨(ad.add (i.toNat * 14)).block, (ad.add (i.toNat * 14)).off + 12, none⟩ = some (.bool (rd_T64 xs i).f4.f3) ∧ w.cell? ⟨(ad.add (i.toNat * 14)).block, (ad.add (i.toNat * 14)).off + 13, none⟩ = some (.int .i64 (rd_T64 xs i).f5) := by
 obtain ⟨ad, c, e, _, hK, hc0⟩ := Kd.C_get h z64 i h0 h1
 have hc : ∀ j u, c[j]? = some u → w.cell? (ad.add (i.toNat * 14 + j)) = some u := hc0
 obtain rfl := k64_open hK
 exact ⟨ad, e, hc 0 _ rfl, by rw [← z19q _ _ 1 (by omega)]; exact hc 1 _ rfl, by rw [← z19q _ _ 2 (by omega)]; exact hc 2 _ rfl, by rw [← z19q _ _ 3 (by omega)]; exact hc 3 _ rfl, by rw [← z19q _ _ 4 (by omega)]; exact hc 4 _ rfl, by rw [← z19q _ _ 5 (by omega)]; exact hc 5 _ rfl, by rw [← z19q _ _ 6 (by omega)]; exact hc 6 _ rfl, by rw [← z19q _ _ 7 (by omega)]; exact hc 7 _ rfl, by rw [← z19q _ _ 8 (by omega)]; exact hc 8 _ rfl, by rw [← z19q _ _ 9 (by omega)]; exact hc 9 _ rfl, by rw [← z19q _ _ 10 (by omega)]; exact hc 10 _ rfl, by rw [← z19q _ _ 11 (by omega)]; exact hc 11 _ rfl, by rw [← z19q _ _ 12 (by omega)]; exact hc 12 _ rfl, by rw [← z19q _ _ 13 (by omega)]; exact hc 13 _ rfl⟩

/-! #### struct type 65 -/
structure S65 where
 f0 : Bool
 f1 : Int
 f2 : Int
def z65 : S65 := ⟨false, (0 : Int), (0 : Int)⟩
def k65 : Kd S65 := Kd.iso (Kd.pair Kd.bool (Kd.pair (Kd.int .i64) (Kd.int .i64))) (fun x : S65 => (x.f0, x.f1, x.f2))
theorem k65_open {w : World} {x : S65} {cs : List Value} (h : k65.K w x cs) : cs = [.bool x.f0, .int .i64 x.f1, .int .i64 x.f2] := by
 obtain ⟨_, _, rfl, rfl, ⟨_, _, rfl, rfl, rfl⟩⟩ := h
 exact rfl
theorem k65_openM {w : World} {base : Nat} {ok : Nat → Prop} {x : S65} {cs : List Value} (h : k65.M w base ok x cs) : cs = [.bool x.f0, .int .i64 x.f1, .int .i64 x.f2] := by
 obtain ⟨_, _, rfl, rfl, ⟨_, _, rfl, rfl, rfl⟩⟩ := h
 exact rfl
theorem k65_mkM (w : World) (base : Nat) (ok : Nat → Prop) (x : S65)  : k65.M w base ok x [.bool x.f0, .int .i64 x.f1, .int .i64 x.f2] := ⟨[.bool x.f0], [.int .i64 x.f1, .int .i64 x.f2], rfl, rfl, ⟨[.int .i64 x.f1], [.int .i64 x.f2], rfl, rfl, rfl⟩⟩
def rd_T65 (xs : List S65) (i : Int) : S65 := xs.getD i.toNat z65
/-! #### struct type 47 -/
structure S47 where
 f0 : Int
 f1 : Int
 f2 : Bool
 f3 : Bool
def z47 : S47 := ⟨(0 : Int), (0 : Int), false, false⟩
def k47 : Kd S47 := Kd.iso (Kd.pair (Kd.int .i64) (Kd.pair (Kd.int .i64) (Kd.pair Kd.bool Kd.bool))) (fun x : S47 => (x.f0, x.f1, x.f2, x.f3))
theorem k47_open {w : World} {x : S47} {cs : List Value} (h : k47.K w x cs) : cs = [.int .i64 x.f0, .int .i64 x.f1, .bool x.f2, .bool x.f3] := by
 obtain ⟨_, _, rfl, rfl, ⟨_, _, rfl, rfl, ⟨_, _, rfl, rfl, rfl⟩⟩⟩ := h
 exact rfl
theorem k47_openM {w : World} {base : Nat} {ok : Nat → Prop} {x : S47} {cs : List Value} (h : k47.M w base ok x cs) : cs = [.int .i64 x.f0, .int .i64 x.f1, .bool x.f2, .bool x.f3] := by
 obtain ⟨_, _, rfl, rfl, ⟨_, _, rfl, rfl, ⟨_, _, rfl, rfl, rfl⟩⟩⟩ := h
 exact rfl
theorem k47_mkM (w : World) (base : Nat) (ok : Nat → Prop) (x : S47)  : k47.M w base ok x [.int .i64 x.f0, .int .i64 x.f1, .bool x.f2, .bool x.f3] := ⟨[.int .i64 x.f0], [.int .i64 x.f1, .bool x.f2, .bool x.f3], rfl, rfl, ⟨[.int .i64 x.f1], [.bool x.f2, .bool x.f3], rfl, rfl, ⟨[.bool x.f2], [.bool x.f3], rfl, rfl, rfl⟩⟩⟩
def rd_T47 (xs : List S47) (i : Int) : S47 := xs.getD i.toNat z47
/-! #### struct type 67 -/
structure S67 where
 f0 : Int
 f1 : ByteArray
 f2 : S65
 f3 : S47
 f4 : S47
 f5 : Int
def z67 : S67 := ⟨(0 : Int), (⟨#[]⟩ : ByteArray), z65, z47, z47, (0 : Int)⟩
def k67 : Kd S67 := Kd.iso (Kd.pair (Kd.int .i64) (Kd.pair Kd.string (Kd.pair k65 (Kd.pair k47 (Kd.pair k47 (Kd.int .i64)))))) (fun x : S67 => (x.f0, x.f1, x.f2, x.f3, x.f4, x.f5))
theorem k67_open {w : World} {x : S67} {cs : List Value} (h : k67.K w x cs) : cs = [.int .i64 x.f0, .string x.f1, .bool x.f2.f0, .int .i64 x.f2.f1, .int .i64 x.f2.f2, .int .i64 x.f3.f0, .int .i64 x.f3.f1, .bool x.f3.f2, .bool x.f3.f3, .int .i64 x.f4.f0, .int .i64 x.f4.f1, .bool x.f4.f2, .bool x.f4.f3, .int .i64 x.f5] := by
 obtain ⟨_, _, rfl, rfl, ⟨_, _, rfl, rfl, ⟨_, _, rfl, s2, ⟨_, _, rfl, s5, ⟨_, _, rfl, s9, rfl⟩⟩⟩⟩⟩ := h
 obtain rfl := k65_open s2
 obtain rfl := k47_open s5
 obtain rfl := k47_open s9
 exact rfl
theorem k67_openM {w : World} {base : Nat} {ok : Nat → Prop} {x : S67} {cs : List Value} (h : k67.M w base ok x cs) : cs = [.int .i64 x.f0, .string x.f1, .bool x.f2.f0, .int .i64 x.f2.f1, .int .i64 x.f2.f2, .int .i64 x.f3.f0, .int .i64 x.f3.f1, .bool x.f3.f2, .bool x.f3.f3, .int .i64 x.f4.f0, .int .i64 x.f4.f1, .bool x.f4.f2, .bool x.f4.f3, .int .i64 x.f5] := by
 obtain ⟨_, _, rfl, rfl, ⟨_, _, rfl, rfl, ⟨_, _, rfl, s2, ⟨_, _, rfl, s5, ⟨_, _, rfl, s9, rfl⟩⟩⟩⟩⟩ := h
 obtain rfl := k65_openM s2
 obtain rfl := k47_openM s5
 obtain rfl := k47_openM s9
 exact rfl
theorem k67_mkM (w : World) (base : Nat) (ok : Nat → Prop) (x : S67)  : k67.M w base ok x [.int .i64 x.f0, .string x.f1, .bool x.f2.f0, .int .i64 x.f2.f1, .int .i64 x.f2.f2, .int .i64 x.f3.f0, .int .i64 x.f3.f1, .bool x.f3.f2, .bool x.f3.f3, .int .i64 x.f4.f0, .int .i64 x.f4.f1, .bool x.f4.f2, .bool x.f4.f3, .int .i64 x.f5] := ⟨[.int .i64 x.f0], [.string x.f1, .bool x.f2.f0, .int .i64 x.f2.f1, .int .i64 x.f2.f2, .int .i64 x.f3.f0, .int .i64 x.f3.f1, .bool x.f3.f2, .bool x.f3.f3, .int .i64 x.f4.f0, .int .i64 x.f4.f1, .bool x.f4.f2, .bool x.f4.f3, .int .i64 x.f5], rfl, rfl, ⟨[.string x.f1], [.bool x.f2.f0, .int .i64 x.f2.f1, .int .i64 x.f2.f2, .int .i64 x.f3.f0, .int .i64 x.f3.f1, .bool x.f3.f2, .bool x.f3.f3, .int .i64 x.f4.f0, .int .i64 x.f4.f1, .bool x.f4.f2, .bool x.f4.f3, .int .i64 x.f5], rfl, rfl, ⟨[.bool x.f2.f0, .int .i64 x.f2.f1, .int .i64 x.f2.f2], [.int .i64 x.f3.f0, .int .i64 x.f3.f1, .bool x.f3.f2, .bool x.f3.f3, .int .i64 x.f4.f0, .int .i64 x.f4.f1, .bool x.f4.f2, .bool x.f4.f3, .int .i64 x.f5], rfl, (k65_mkM w base ok x.f2 ), ⟨[.int .i64 x.f3.f0, .int .i64 x.f3.f1, .bool x.f3.f2, .bool x.f3.f3], [.int .i64 x.f4.f0, .int .i64 x.f4.f1, .bool x.f4.f2, .bool x.f4.f3, .int .i64 x.f5], rfl, (k47_mkM w base ok x.f3 ), ⟨[.int .i64 x.f4.f0, .int .i64 x.f4.f1, .bool x.f4.f2, .bool x.f4.f3], [.int .i64 x.f5], rfl, (k47_mkM w base ok x.f4 ), rfl⟩⟩⟩⟩⟩
def rd_T67 (xs : List S67) (i : Int) : S67 := xs.getD i.toNat z67
theorem at_T67 {w : World} {A : Option Addr} {n : Nat} {xs : List S67} (h : Kd.C k67 w A n xs) (i : Int) (h0 : 0 ≤ i) (h1 : i < n) : ∃ ad , A = some ad ∧ w.cell? (ad.add (i.toNat * 14)) = some (.int .i64 (rd_T67 xs i).f0) ∧ w.cell? ⟨(ad.add (i.toNat * 14)).block, (ad.add (i.toNat * 14)).off + 1, none⟩ = some (.string (rd_T67 xs i).f1) ∧ w.cell? ⟨(ad.add (i.toNat * 14)).block, (ad.add (i.toNat * 14)).off + 2, none⟩ = some (.bool (rd_T67 xs i).f2.f0) ∧ w.cell? ⟨(ad.add (i.toNat * 14)).block, (ad.add (i.toNat * 14)).off + 3, none⟩ = some (.int .i64 (rd_T67 xs i).f2.f1) ∧ w.cell? ⟨(ad.add (i.toNat * 14)).block, (ad.add (i.toNat * 14)).off + 4, none⟩ = some (.int .i64 (rd_T67 xs i).f2.f2) ∧ w.cell? ⟨(ad.add (i.toNat * 14)).block, (ad.add (i.toNat * 14)).off + 5, none⟩ = some (.int .i64 (rd_T67 xs i).f3.f0) ∧ w.cell? ⟨(ad.add (i.toNat * 14)).block, (ad.add (i.toNat * 14)).off + 6, none⟩ = some (.int .i64 (rd_T67 xs i).f3.f1) ∧ w.cell? ⟨(ad.add (i.toNat * 14)).block, (ad.add (i.toNat * 14)).off + 7, none⟩ = some (.bool (rd_T67 xs i).f3.f2) ∧ w.cell? ⟨(ad.add (i.toNat * 14)).block, (ad.add (i.toNat * 14)).off + 8, none⟩ = some (.bool (rd_T67 xs i).f3.f3) ∧ w.cell? ⟨(ad.add (i.toNat * 14)).block, (ad.add (i.toNat * 14)).off + 9, none⟩ = some (.int .i64 (rd_T67 xs i).f4.f0) ∧ w.cell? ⟨(ad.add (i.toNat * 14)).block, (ad.add (i.toNat * 14)).off + 10, none⟩ = some (.int .i64 (rd_T67 xs i).f4.f1) ∧ w.cell? ⟨(ad.add (i.toNat * 14)).block, (ad.add (i.toNat * 14)).off + 11, none⟩ = some (.bool (rd_T67 xs i).f4.f2) ∧ w.cell? ⟨(ad.add (i.toNat * 14)).block, (ad.add (i.toNat * 14)).off + 12, none⟩ = some (.bool (rd_T67 xs i).f4.f3) ∧ w.cell? ⟨(ad.add (i.toNat * 14)).block, (ad.add (i.toNat * 14)).off + 13, none⟩ = some (.int .i64 (rd_T67 xs i).f5) := by
 obtain ⟨ad, c, e, _, hK, hc0⟩ := Kd.C_get h z67 i h0 h1
 have hc : ∀ j u, c[j]? = some u → w.cell? (ad.add (i.toNat * 14 + j)) = some u := hc0
 obtain rfl := k67_open hK
 exact ⟨ad, e, hc 0 _ rfl, by rw [← z19q _ _ 1 (by omega)]; exact hc 1 _ rfl, by rw [← z19q _ _ 2 (by omega)]; exact hc 2 _ rfl, by rw [← z19q _ _ 3 (by omega)]; exact hc 3 _ rfl, by rw [← z19q _ _ 4 (by omega)]; exact hc 4 _ rfl, by rw [← z19q _ _ 5 (by omega)]; exact hc 5 _ rfl, by rw [← z19q _ _ 6 (by omega)]; exact hc 6 _ rfl, by rw [← z19q _ _ 7 (by omega)]; exact hc 7 _ rfl, by rw [← z19q _ _ 8 (by omega)]; exact hc 8 _ rfl, by rw [← z19q _ _ 9 (by omega)]; exact hc 9 _ rfl, by rw [← z19q _ _ 10 (by omega)]; exact hc 10 _ rfl, by rw [← z19q _ _ 11 (by omega)]; exact hc 11 _ rfl, by rw [← z19q _ _ 12 (by omega)]; exact hc 12 _ rfl, by rw [← z19q _ _ 13 (by omega)]; exact hc 13 _ rfl⟩

/-! #### struct type 70, nested in itself -/
structure S70 where
 f0 : S67
 f1 : (List S70)
def z70 : S70 := ⟨z67, ([] : List S70)⟩
def F70 (d : Kd S70) : Kd S70 := Kd.iso (Kd.pair k67 (Kd.slice 70 d)) (fun x : S70 => (x.f0, x.f1))
theorem mono70 : Kd.Mono F70 := Kd.mono_iso _ (Kd.mono_pair (Kd.mono_const _) (Kd.mono_slice 70 Kd.mono_id))
theorem sub70 : Kd.Sub F70 [70] := Kd.sub_iso _ (Kd.sub_pair (Kd.sub_const _ (by decide)) (Kd.sub_slice 70 (by decide) Kd.sub_id))
theorem sz70 : ∀ n, (Kd.upto F70 15 [70] n).sz = 15 := Kd.upto_sz (fun _ => rfl)
def k70 : Kd S70 := Kd.fix F70 15 [70] sz70 (Kd.upto_E sub70)
theorem k70_open {w : World} {x : S70} {cs : List Value} (h : k70.K w x cs) : ∃ A14 c14, cs = [.int .i64 x.f0.f0, .string x.f0.f1, .bool x.f0.f2.f0, .int .i64 x.f0.f2.f1, .int .i64 x.f0.f2.f2, .int .i64 x.f0.f3.f0, .int .i64 x.f0.f3.f1, .bool x.f0.f3.f2, .bool x.f0.f3.f3, .int .i64 x.f0.f4.f0, .int .i64 x.f0.f4.f1, .bool x.f0.f4.f2, .bool x.f0.f4.f3, .int .i64 x.f0.f5, .slice A14 x.f1.length c14] ∧ x.f1.length ≤ c14 ∧ k70.C w A14 x.f1.length x.f1 := by
 obtain ⟨n, h⟩ := h
 cases n with
 | zero => exact h.elim
 | succ n =>
  obtain ⟨_, _, rfl, s0, ⟨A14, c14, rfl, l14, g14⟩⟩ := h
  obtain rfl := k67_open s0
  exact ⟨A14, c14, rfl, l14, Kd.fix_C g14⟩
theorem k70_mkM (w : World) (base : Nat) (ok : Nat → Prop) (x : S70) {v14 : Value} (g14 : k70.R 70 w base ok v14 x.f1) : k70.M w base ok x [.int .i64 x.f0.f0, .string x.f0.f1, .bool x.f0.f2.f0, .int .i64 x.f0.f2.f1, .int .i64 x.f0.f2.f2, .int .i64 x.f0.f3.f0, .int .i64 x.f0.f3.f1, .bool x.f0.f3.f2, .bool x.f0.f3.f3, .int .i64 x.f0.f4.f0, .int .i64 x.f0.f4.f1, .bool x.f0.f4.f2, .bool x.f0.f4.f3, .int .i64 x.f0.f5, v14] := by
 obtain ⟨n14, q14⟩ := Kd.fix_R_back mono70 g14
 have r14 := Kd.upto_R_le mono70 sz70 (show n14 ≤ n14 by omega) q14
 exact ⟨n14 + 1, ⟨[.int .i64 x.f0.f0, .string x.f0.f1, .bool x.f0.f2.f0, .int .i64 x.f0.f2.f1, .int .i64 x.f0.f2.f2, .int .i64 x.f0.f3.f0, .int .i64 x.f0.f3.f1, .bool x.f0.f3.f2, .bool x.f0.f3.f3, .int .i64 x.f0.f4.f0, .int .i64 x.f0.f4.f1, .bool x.f0.f4.f2, .bool x.f0.f4.f3, .int .i64 x.f0.f5], [v14], rfl, (k67_mkM w base ok x.f0 ), ⟨v14, rfl, r14⟩⟩⟩
def rd_T70 (xs : List S70) (i : Int) : S70 := xs.getD i.toNat z70
theorem at_T70 {w : World} {A : Option Addr} {n : Nat} {xs : List S70} (h : Kd.C k70 w A n xs) (i : Int) (h0 : 0 ≤ i) (h1 : i < n) : ∃ ad A14 c14, A = some ad ∧ w.cell? (ad.add (i.toNat * 15)) = some (.int .i64 (rd_T70 xs i).f0.f0) ∧ w.cell? ⟨(ad.add (i.toNat * 15)).block, (ad.add (i.toNat * 15)).off + 1, none⟩ = some (.string (rd_T70 xs i).f0.f1) ∧ w.cell? ⟨(ad.add (i.toNat * 15)).block, (ad.add (i.toNat * 15)).off + 2, none⟩ = some (.bool (rd_T70 xs i).f0.f2.f0) ∧ w.cell? ⟨(ad.add (i.toNat * 15)).block, (ad.add (i.toNat * 15)).off + 3, none⟩ = some (.int .i64 (rd_T70 xs i).f0.f2.f1) ∧ w.cell? ⟨(ad.add (i.toNat * 15)).block, (ad.add (i.toNat * 15)).off + 4, none⟩ = some (.int .i64 (rd_T70 xs i).f0.f2.f2) ∧ w.cell? ⟨(ad.add (i.toNat * 15)).block, (ad.add (i.toNat * 15)).off + 5, none⟩ = some (.int .i64 (rd_T70 xs i).f0.f3.f0) ∧ w.cell? ⟨(ad.add (i.toNat * 15)).block, (ad.add (i.toNat * 15)).off + 6, none⟩ = some (.int .i64 (rd_T70 xs i).f0.f3.f1) ∧ w.cell? ⟨(ad.add (i.toNat * 15)).block, (ad.add (i.toNat * 15)).off + 7, none⟩ = some (.bool (rd_T70 xs i).f0.f3.f2) ∧ w.cell? ⟨(ad.add (i.toNat * 15)).block, (ad.add (i.toNat * 15)).off + 8, none⟩ = some (.bool (rd_T70 xs i).f0.f3.f3) ∧ w.cell? ⟨(ad.add (i.toNat * 15)).block, (ad.add (i.toNat * 15)).off + 9, none⟩ = some (.int .i64 (rd_T70 xs i).f0.f4.f0) ∧ w.cell? ⟨(ad.add (i.toNat * 15)).block, (ad.add (i.toNat * 15)).off + 10, none⟩ = some (.int .i64 (rd_T70 xs i).f0.f4.f1) ∧ w.cell? ⟨(ad.add (i.toNat * 15)).block, (ad.add (i.toNat * 15)).off + 11, none⟩ = some (.bool (rd_T70 xs i).f0.f4.f2) ∧ w.cell? ⟨(ad.add (i.toNat * 15)).block, (ad.add (i.toNat * 15)).off + 12, none⟩ = some (.bool (rd_T70 xs i).f0.f4.f3) ∧ w.cell? ⟨(ad.add (i.toNat * 15)).block, (ad.add (i.toNat * 15)).off + 13, none⟩ = some (.int .i64 (rd_T70 xs i).f0.f5) ∧ w.cell? ⟨(ad.add (i.toNat * 15)).block, (ad.add (i.toNat * 15)).off + 14, none⟩ = some (.slice A14 (rd_T70 xs i).f1.length c14) ∧ (rd_T70 xs i).f1.length ≤ c14 ∧ k70.C w A14 (rd_T70 xs i).f1.length (rd_T70 xs i).f1 := by
 obtain ⟨ad, c, e, _, hK, hc0⟩ := Kd.C_get h z70 i h0 h1
 have hc : ∀ j u, c[j]? = some u → w.cell? (ad.add (i.toNat * 15 + j)) = some u := hc0
 obtain ⟨A14, c14, rfl, l14, g14⟩ := k70_open hK
 exact ⟨ad, A14, c14, e, hc 0 _ rfl, by rw [← z19q _ _ 1 (by omega)]; exact hc 1 _ rfl, by rw [← z19q _ _ 2 (by omega)]; exact hc 2 _ rfl, by rw [← z19q _ _ 3 (by omega)]; exact hc 3 _ rfl, by rw [← z19q _ _ 4 (by omega)]; exact hc 4 _ rfl, by rw [← z19q _ _ 5 (by omega)]; exact hc 5 _ rfl, by rw [← z19q _ _ 6 (by omega)]; exact hc 6 _ rfl, by rw [← z19q _ _ 7 (by omega)]; exact hc 7 _ rfl, by rw [← z19q _ _ 8 (by omega)]; exact hc 8 _ rfl, by rw [← z19q _ _ 9 (by omega)]; exact hc 9 _ rfl, by rw [← z19q _ _ 10 (by omega)]; exact hc 10 _ rfl, by rw [← z19q _ _ 11 (by omega)]; exact hc 11 _ rfl, by rw [← z19q _ _ 12 (by omega)]; exact hc 12 _ rfl, by rw [← z19q _ _ 13 (by omega)]; exact hc 13 _ rfl, by rw [← z19q _ _ 14 (by omega)]; exact hc 14 _ rfl, l14, g14⟩




theorem eqA47 (d : Nat) (w : World) (x0 y0 : Int) (x1 y1 : Int) (x2 y2 : Bool) (x3 y3 : Bool) :
  (Op.equalIn (d + 2) 47 (.agg #[.int .i64 x0, .int .i64 x1, .bool x2, .bool x3]) (.agg #[.int .i64 y0, .int .i64 y1, .bool y2, .bool y3])).run Tryz.prog w = .ok (x0 == y0 && (x1 == y1 && (x2 == y2 && (x3 == y3)))) w := by
 refine eqA_of Tryz.underlying47 (by kernel_rfl) ?_
 refine eqf_cons (by rfl) (by go_simp; rfl) (by go_simp; rfl) (by go_simp) ?_
 refine eqf_cons (by rfl) (by go_simp; rfl) (by go_simp; rfl) (by go_simp) ?_
 refine eqf_cons (by rfl) (by go_simp; rfl) (by go_simp; rfl) (by go_simp) ?_
 exact eqf_last (by rfl) (by go_simp; rfl) (by go_simp; rfl) (by go_simp)



theorem eqA65 (d : Nat) (w : World) (x0 y0 : Bool) (x1 y1 : Int) (x2 y2 : Int) :
  (Op.equalIn (d + 2) 65 (.agg #[.bool x0, .int .i64 x1, .int .i64 x2]) (.agg #[.bool y0, .int .i64 y1, .int .i64 y2])).run Tryz.prog w = .ok (x0 == y0 && (x1 == y1 && (x2 == y2))) w := by
 refine eqA_of Tryz.underlying65 (by kernel_rfl) ?_
 refine eqf_cons (by rfl) (by go_simp; rfl) (by go_simp; rfl) (by go_simp) ?_
 refine eqf_cons (by rfl) (by go_simp; rfl) (by go_simp; rfl) (by go_simp) ?_
 exact eqf_last (by rfl) (by go_simp; rfl) (by go_simp; rfl) (by go_simp)

attribute [local go_sem high] eqA47 eqA65
/-! ### laws_szNode: function 34 -/

def laws_szNode.f (a0_0 : Int) (a0_1 : ByteArray) (a0_2 : Bool) (a0_3 : Int) (a0_4 : Int) (a0_5 : Int) (a0_6 : Int) (a0_7 : Bool) (a0_8 : Bool) (a0_9 : Int) (a0_10 : Int) (a0_11 : Bool) (a0_12 : Bool) (a0_13 : Int) (a1 : Int) : Option (Int) := if (wrap64 (a1 - (a0_1.size : Int))) < 0 then (some (-1)) else (some (wrap64 (a1 - (a0_1.size : Int))))

set_option maxHeartbeats 8000000 in
set_option maxRecDepth 100000 in
theorem laws_szNode.calls (a0_0 : Int) (a0_1 : ByteArray) (a0_2 : Bool) (a0_3 : Int) (a0_4 : Int) (a0_5 : Int) (a0_6 : Int) (a0_7 : Bool) (a0_8 : Bool) (a0_9 : Int) (a0_10 : Int) (a0_11 : Bool) (a0_12 : Bool) (a0_13 : Int) (a1 : Int) (r : Int) (w : World) (h : laws_szNode.f a0_0 a0_1 a0_2 a0_3 a0_4 a0_5 a0_6 a0_7 a0_8 a0_9 a0_10 a0_11 a0_12 a0_13 a1 = some r) :
  Calls Tryz.prog 34 #[.agg #[.int .i64 a0_0, .string a0_1, .bool a0_2, .int .i64 a0_3, .int .i64 a0_4, .int .i64 a0_5, .int .i64 a0_6, .bool a0_7, .bool a0_8, .int .i64 a0_9, .int .i64 a0_10, .bool a0_11, .bool a0_12, .int .i64 a0_13], .int .i64 a1] w fun e w' => e = .returned (.int .i64 r) ∧ Below w.heap.size w w' := by
 have hu64 := Tryz.underlying64
 have HB := Aside0.mk (Below.refl w.heap.size w)
 have H : (if (wrap64 (a1 - (a0_1.size : Int))) < 0 then (some (-1)) else (some (wrap64 (a1 - (a0_1.size : Int))))) = some r := h
 clear h
 by_cases c3 : (wrap64 (a1 - (a0_1.size : Int))) < 0
 ·rw [if_pos c3] at H
  have c3b0 : decide ((wrap64 (a1 - (a0_1.size : Int))) < 0) = true := decide_eq_true c3
  clear c3
  obtain rfl := Option.some.inj H
  go_enter Tryz.func34, Tryz.ntmps34
  go_wp2_with (first | ((with_reducible refine z17q (N := 2) rfl ?_); refine z16q ?hg (N := 2) ?hd (cs := #[.int .i64 a0_0, .string a0_1, .bool a0_2, .int .i64 a0_3, .int .i64 a0_4, .int .i64 a0_5, .int .i64 a0_6, .bool a0_7, .bool a0_8, .int .i64 a0_9, .int .i64 a0_10, .bool a0_11, .bool a0_12, .int .i64 a0_13]) (t := 64) ?hr ?_; (case hd => rfl); (case hg => rfl); (case hr => first | (go_simp; done) | (go_simp; rfl)); intro gb101 hg w4 hbox hb; have n0_ := Aside0.mk (z6q (ibh HB.out) hb); have n1_ := Aside0.mk (hbox); have n2_ := Aside0.mk ((by rw [hg]; exact (z7q (ibh HB.out)) : w.heap.size ≤ gb101)); have n3_ := Aside0.mk ((by rw [hg]; exact (z7q (ibh HB.out)) : w.heap.size ≤ gb101)); clear HB; have HB := n0_; have BK101 := n1_; have GW101 := n2_; have GE101 := n3_; clear n0_ n1_ n2_ n3_; clear hb hbox hg; obtain ⟨hcz5_0, hcz5_1, hcz5_2, hcz5_3, hcz5_4, hcz5_5, hcz5_6, hcz5_7, hcz5_8, hcz5_9, hcz5_10, hcz5_11, hcz5_12, hcz5_13, hfz5_0, hfz5_1, hfz5_2, hfz5_3, hfz5_4, hfz5_5, hfz5_6, hfz5_7, hfz5_8, hfz5_9, hfz5_10, hfz5_11, hfz5_12, hfz5_13⟩ := cr14 (w := w4) (g := gb101) BK101.out))
  go_ret
  exact ⟨by first | rfl | (simp [errW_none, errW_some] <;> rfl) | (simp [*, errW_none, errW_some] <;> rfl), by repeat (first | (with_reducible first | exact HB.out | apply z2q | apply z3q | apply z4q | refine z8q ?_ GE101.out) | exact HB.out)⟩
 ·rw [if_neg c3] at H
  have c3b0 : decide ((wrap64 (a1 - (a0_1.size : Int))) < 0) = false := decide_eq_false c3
  clear c3
  obtain rfl := Option.some.inj H
  go_enter Tryz.func34, Tryz.ntmps34
  go_wp2_with (first | ((with_reducible refine z17q (N := 2) rfl ?_); refine z16q ?hg (N := 2) ?hd (cs := #[.int .i64 a0_0, .string a0_1, .bool a0_2, .int .i64 a0_3, .int .i64 a0_4, .int .i64 a0_5, .int .i64 a0_6, .bool a0_7, .bool a0_8, .int .i64 a0_9, .int .i64 a0_10, .bool a0_11, .bool a0_12, .int .i64 a0_13]) (t := 64) ?hr ?_; (case hd => rfl); (case hg => rfl); (case hr => first | (go_simp; done) | (go_simp; rfl)); intro gb101 hg w6 hbox hb; have n0_ := Aside0.mk (z6q (ibh HB.out) hb); have n1_ := Aside0.mk (hbox); have n2_ := Aside0.mk ((by rw [hg]; exact (z7q (ibh HB.out)) : w.heap.size ≤ gb101)); have n3_ := Aside0.mk ((by rw [hg]; exact (z7q (ibh HB.out)) : w.heap.size ≤ gb101)); clear HB; have HB := n0_; have BK101 := n1_; have GW101 := n2_; have GE101 := n3_; clear n0_ n1_ n2_ n3_; clear hb hbox hg; obtain ⟨hcz7_0, hcz7_1, hcz7_2, hcz7_3, hcz7_4, hcz7_5, hcz7_6, hcz7_7, hcz7_8, hcz7_9, hcz7_10, hcz7_11, hcz7_12, hcz7_13, hfz7_0, hfz7_1, hfz7_2, hfz7_3, hfz7_4, hfz7_5, hfz7_6, hfz7_7, hfz7_8, hfz7_9, hfz7_10, hfz7_11, hfz7_12, hfz7_13⟩ := cr14 (w := w6) (g := gb101) BK101.out))
  go_ret
  exact ⟨by first | rfl | (simp [errW_none, errW_some] <;> rfl) | (simp [*, errW_none, errW_some] <;> rfl), by repeat (first | (with_reducible first | exact HB.out | apply z2q | apply z3q | apply z4q | refine z8q ?_ GE101.out) | exact HB.out)⟩



/-! ### laws_szNodeS: function 9 -/

def laws_szNodeS.l0 : Nat → List (S64) → Int → Int → Option (Int)
 | 0, _, _, _ => none
 | k + 1, x0, x1, x5 => if x5 < (x0.length : Int) then (if 0 ≤ x5 then ((laws_szNode.f ((rd_T64 x0 x5).f0) ((rd_T64 x0 x5).f1) ((rd_T64 x0 x5).f2.f0) ((rd_T64 x0 x5).f2.f1) ((rd_T64 x0 x5).f2.f2) ((rd_T64 x0 x5).f3.f0) ((rd_T64 x0 x5).f3.f1) ((rd_T64 x0 x5).f3.f2) ((rd_T64 x0 x5).f3.f3) ((rd_T64 x0 x5).f4.f0) ((rd_T64 x0 x5).f4.f1) ((rd_T64 x0 x5).f4.f2) ((rd_T64 x0 x5).f4.f3) ((rd_T64 x0 x5).f5) x1).bind fun t103 => (if t103 < 0 then (some (-1)) else (laws_szNodeS.l0 k x0 t103 (wrap64 (x5 + 1))))) else (none)) else (some x1)

def laws_szNodeS.f (k : Nat) (l0 : List (S64)) (a1 : Int) : Option (Int) := if (wrap64 (a1 - (l0.length : Int))) < 0 then (some (-1)) else (laws_szNodeS.l0 k l0 (wrap64 (a1 - (l0.length : Int))) 0)

set_option maxHeartbeats 8000000 in
set_option maxRecDepth 100000 in
theorem laws_szNodeS.calls (k : Nat) (A0 : Option Addr) (c0 : Nat) (l0 : List (S64)) (a1 : Int) (r : Int) (w : World) (hr0 : Kd.C k64 w A0 l0.length l0) (hc0 : l0.length ≤ c0) (h : laws_szNodeS.f k l0 a1 = some r) :
  Calls Tryz.prog 9 #[.slice A0 l0.length c0, .int .i64 a1] w fun e w' => e = .returned (.int .i64 r) ∧ Below w.heap.size w w' := by
 have hu64 := Tryz.underlying64
 have HR0 := Aside0.mk hr0
 have HC0 := Aside0.mk hc0
 clear hr0 hc0
 have HB := Aside0.mk (Below.refl w.heap.size w)
 have H : (if (wrap64 (a1 - (l0.length : Int))) < 0 then (some (-1)) else (laws_szNodeS.l0 k l0 (wrap64 (a1 - (l0.length : Int))) 0)) = some r := h
 clear h
 by_cases c3 : (wrap64 (a1 - (l0.length : Int))) < 0
 ·rw [if_pos c3] at H
  have c3b0 : decide ((wrap64 (a1 - (l0.length : Int))) < 0) = true := decide_eq_true c3
  clear c3
  obtain rfl := Option.some.inj H
  go_enter Tryz.func9, Tryz.ntmps9
  go_wp2
  go_ret
  exact ⟨by first | rfl | (simp [errW_none, errW_some] <;> rfl) | (simp [*, errW_none, errW_some] <;> rfl), by repeat (first | (with_reducible first | exact HB.out | apply z2q | apply z3q | apply z4q) | exact HB.out)⟩
 ·rw [if_neg c3] at H
  have c3b0 : decide ((wrap64 (a1 - (l0.length : Int))) < 0) = false := decide_eq_false c3
  clear c3
  have H' := Aside0.mk H
  clear H
  go_enter Tryz.func9, Tryz.ntmps9
  go_wp2
  go_loopg [1, 5] k (fun kq v1 v5 w' => ∃ (x1_1 : Int) (x5_1 : Int), v1 = .int .i64 x1_1 ∧ v5 = .int .i64 x5_1 ∧ Aside0 (laws_szNodeS.l0 kq l0 x1_1 x5_1 = some r) ∧ Aside0 (kq ≤ k) ∧ Aside0 (Below w.heap.size w w'))
  case atStart => exact ⟨(wrap64 (a1 - (l0.length : Int))), (0), (by first | rfl | (simp; done) | (simp [*]; done) | (simp; unfold wrap64; omega)), (by first | rfl | (simp; done) | (simp [*]; done) | (simp; unfold wrap64; omega)), H', ⟨Nat.le_refl _⟩, ⟨by repeat (first | (with_reducible first | exact HB.out | apply z2q | apply z3q | apply z4q) | exact HB.out)⟩⟩
  case round =>
   clear H'
   try clear p2
   try clear c3
   try clear c3b0
   obtain ⟨x1_1, x5_1, rfl, rfl, HA, HK1, HB⟩ := hrel
   cases gk with
   | zero => exact absurd HA.out (by simp [laws_szNodeS.l0])
   | succ k1 =>
    have H := HA.out
    clear HA
    simp only [laws_szNodeS.l0] at H
    by_cases c4 : x5_1 < (l0.length : Int)
    ·rw [if_pos c4] at H
     have c4b0 : decide (x5_1 < (l0.length : Int)) = true := decide_eq_true c4
     clear c4
     by_cases c5 : 0 ≤ x5_1
     ·rw [if_pos c5] at H
      have c5b0 : decide (0 ≤ x5_1) = true := decide_eq_true c5
      clear c5
      replace H := Option.bind_eq_some_iff.mp H
      obtain ⟨t103, A60, H⟩ := H
      replace H : (if t103 < 0 then (some (-1)) else (laws_szNodeS.l0 k1 l0 t103 (wrap64 (x5_1 + 1)))) = some r := H
      have A6 := Aside0.mk A60
      clear A60
      by_cases c7 : t103 < 0
      ·rw [if_pos c7] at H
       have c7b0 : decide (t103 < 0) = true := decide_eq_true c7
       clear c7
       obtain rfl := Option.some.inj H
       have p102 : 0 ≤ (x5_1 : Int) := of_decide_eq_true (by first | (with_reducible assumption) | assumption)
       have q102 : x5_1 < (l0.length : Int) := of_decide_eq_true (by first | (with_reducible assumption) | assumption)
       obtain ⟨ad102, e102, hx102_0, hx102_1, hx102_2, hx102_3, hx102_4, hx102_5, hx102_6, hx102_7, hx102_8, hx102_9, hx102_10, hx102_11, hx102_12, hx102_13⟩ := at_T64 HR0.out x5_1 p102 q102
       cases e102
       replace hx102_0 := (hbc HB.out hx102_0).trans hx102_0
       replace hx102_1 := (hbc HB.out hx102_1).trans hx102_1
       replace hx102_2 := (hbc HB.out hx102_2).trans hx102_2
       replace hx102_3 := (hbc HB.out hx102_3).trans hx102_3
       replace hx102_4 := (hbc HB.out hx102_4).trans hx102_4
       replace hx102_5 := (hbc HB.out hx102_5).trans hx102_5
       replace hx102_6 := (hbc HB.out hx102_6).trans hx102_6
       replace hx102_7 := (hbc HB.out hx102_7).trans hx102_7
       replace hx102_8 := (hbc HB.out hx102_8).trans hx102_8
       replace hx102_9 := (hbc HB.out hx102_9).trans hx102_9
       replace hx102_10 := (hbc HB.out hx102_10).trans hx102_10
       replace hx102_11 := (hbc HB.out hx102_11).trans hx102_11
       replace hx102_12 := (hbc HB.out hx102_12).trans hx102_12
       replace hx102_13 := (hbc HB.out hx102_13).trans hx102_13
       replace p102 := eq_true p102
       replace q102 := eq_true q102
       go_wp2_with (first | ((with_reducible refine z14q (f := 34) rfl ?_); refine z20q (some 23) rfl rfl Tryz.func34 (by kernel_rfl) rfl #[.agg #[.int .i64 ((rd_T64 l0 x5_1).f0), .string ((rd_T64 l0 x5_1).f1), .bool ((rd_T64 l0 x5_1).f2.f0), .int .i64 ((rd_T64 l0 x5_1).f2.f1), .int .i64 ((rd_T64 l0 x5_1).f2.f2), .int .i64 ((rd_T64 l0 x5_1).f3.f0), .int .i64 ((rd_T64 l0 x5_1).f3.f1), .bool ((rd_T64 l0 x5_1).f3.f2), .bool ((rd_T64 l0 x5_1).f3.f3), .int .i64 ((rd_T64 l0 x5_1).f4.f0), .int .i64 ((rd_T64 l0 x5_1).f4.f1), .bool ((rd_T64 l0 x5_1).f4.f2), .bool ((rd_T64 l0 x5_1).f4.f3), .int .i64 ((rd_T64 l0 x5_1).f5)], .int .i64 x1_1] rfl (by (try simp only [map_toArray, map_cons, map_nil]); first | done | rfl | (simp only [length_drop, length_take]; rfl)) ?_; (with_reducible refine (laws_szNode.calls ((rd_T64 l0 x5_1).f0) ((rd_T64 l0 x5_1).f1) ((rd_T64 l0 x5_1).f2.f0) ((rd_T64 l0 x5_1).f2.f1) ((rd_T64 l0 x5_1).f2.f2) ((rd_T64 l0 x5_1).f3.f0) ((rd_T64 l0 x5_1).f3.f1) ((rd_T64 l0 x5_1).f3.f2) ((rd_T64 l0 x5_1).f3.f3) ((rd_T64 l0 x5_1).f4.f0) ((rd_T64 l0 x5_1).f4.f1) ((rd_T64 l0 x5_1).f4.f2) ((rd_T64 l0 x5_1).f4.f3) ((rd_T64 l0 x5_1).f5) x1_1 t103 _ A6.out).mono ?_); rintro e w8 ⟨rfl, hb⟩; refine ⟨_, rfl, ?_⟩; have n0_ := Aside0.mk (z6q (ibh HB.out) hb); clear HB; have HB := n0_; clear n0_; (try clear hb); (try clear hb2); (try clear hk); (try clear hi)))
       go_ret
       exact ⟨by first | rfl | (simp [errW_none, errW_some] <;> rfl) | (simp [*, errW_none, errW_some] <;> rfl), by repeat (first | (with_reducible first | exact HB.out | apply z2q | apply z3q | apply z4q) | exact HB.out)⟩
      ·rw [if_neg c7] at H
       have c7b0 : decide (t103 < 0) = false := decide_eq_false c7
       clear c7
       have H' := Aside0.mk H
       clear H
       have p102 : 0 ≤ (x5_1 : Int) := of_decide_eq_true (by first | (with_reducible assumption) | assumption)
       have q102 : x5_1 < (l0.length : Int) := of_decide_eq_true (by first | (with_reducible assumption) | assumption)
       obtain ⟨ad102, e102, hx102_0, hx102_1, hx102_2, hx102_3, hx102_4, hx102_5, hx102_6, hx102_7, hx102_8, hx102_9, hx102_10, hx102_11, hx102_12, hx102_13⟩ := at_T64 HR0.out x5_1 p102 q102
       cases e102
       replace hx102_0 := (hbc HB.out hx102_0).trans hx102_0
       replace hx102_1 := (hbc HB.out hx102_1).trans hx102_1
       replace hx102_2 := (hbc HB.out hx102_2).trans hx102_2
       replace hx102_3 := (hbc HB.out hx102_3).trans hx102_3
       replace hx102_4 := (hbc HB.out hx102_4).trans hx102_4
       replace hx102_5 := (hbc HB.out hx102_5).trans hx102_5
       replace hx102_6 := (hbc HB.out hx102_6).trans hx102_6
       replace hx102_7 := (hbc HB.out hx102_7).trans hx102_7
       replace hx102_8 := (hbc HB.out hx102_8).trans hx102_8
       replace hx102_9 := (hbc HB.out hx102_9).trans hx102_9
       replace hx102_10 := (hbc HB.out hx102_10).trans hx102_10
       replace hx102_11 := (hbc HB.out hx102_11).trans hx102_11
       replace hx102_12 := (hbc HB.out hx102_12).trans hx102_12
       replace hx102_13 := (hbc HB.out hx102_13).trans hx102_13
       replace p102 := eq_true p102
       replace q102 := eq_true q102
       go_wp2_with (first | ((with_reducible refine z14q (f := 34) rfl ?_); refine z20q (some 23) rfl rfl Tryz.func34 (by kernel_rfl) rfl #[.agg #[.int .i64 ((rd_T64 l0 x5_1).f0), .string ((rd_T64 l0 x5_1).f1), .bool ((rd_T64 l0 x5_1).f2.f0), .int .i64 ((rd_T64 l0 x5_1).f2.f1), .int .i64 ((rd_T64 l0 x5_1).f2.f2), .int .i64 ((rd_T64 l0 x5_1).f3.f0), .int .i64 ((rd_T64 l0 x5_1).f3.f1), .bool ((rd_T64 l0 x5_1).f3.f2), .bool ((rd_T64 l0 x5_1).f3.f3), .int .i64 ((rd_T64 l0 x5_1).f4.f0), .int .i64 ((rd_T64 l0 x5_1).f4.f1), .bool ((rd_T64 l0 x5_1).f4.f2), .bool ((rd_T64 l0 x5_1).f4.f3), .int .i64 ((rd_T64 l0 x5_1).f5)], .int .i64 x1_1] rfl (by (try simp only [map_toArray, map_cons, map_nil]); first | done | rfl | (simp only [length_drop, length_take]; rfl)) ?_; (with_reducible refine (laws_szNode.calls ((rd_T64 l0 x5_1).f0) ((rd_T64 l0 x5_1).f1) ((rd_T64 l0 x5_1).f2.f0) ((rd_T64 l0 x5_1).f2.f1) ((rd_T64 l0 x5_1).f2.f2) ((rd_T64 l0 x5_1).f3.f0) ((rd_T64 l0 x5_1).f3.f1) ((rd_T64 l0 x5_1).f3.f2) ((rd_T64 l0 x5_1).f3.f3) ((rd_T64 l0 x5_1).f4.f0) ((rd_T64 l0 x5_1).f4.f1) ((rd_T64 l0 x5_1).f4.f2) ((rd_T64 l0 x5_1).f4.f3) ((rd_T64 l0 x5_1).f5) x1_1 t103 _ A6.out).mono ?_); rintro e w9 ⟨rfl, hb⟩; refine ⟨_, rfl, ?_⟩; have n0_ := Aside0.mk (z6q (ibh HB.out) hb); clear HB; have HB := n0_; clear n0_; (try clear hb); (try clear hb2); (try clear hk); (try clear hi)))
       go_roundg k1
       case measure => have := HK1.out; omega
       case rel => exact ⟨(t103), (wrap64 (x5_1 + 1)), (by first | rfl | (simp; done) | (simp [*]; done) | (simp; unfold wrap64; omega)), (by first | rfl | (simp; done) | (simp [*]; done) | (simp; unfold wrap64; omega)), H', ⟨by have := HK1.out; omega⟩, ⟨by repeat (first | (with_reducible first | exact HB.out | apply z2q | apply z3q | apply z4q) | exact HB.out)⟩⟩
     ·rw [if_neg c5] at H
      exact absurd H (by simp)
    ·rw [if_neg c4] at H
     have c4b0 : decide (x5_1 < (l0.length : Int)) = false := decide_eq_false c4
     clear c4
     obtain rfl := Option.some.inj H
     go_wp2
     go_ret
     exact ⟨by first | rfl | (simp [errW_none, errW_some] <;> rfl) | (simp [*, errW_none, errW_some] <;> rfl), by repeat (first | (with_reducible first | exact HB.out | apply z2q | apply z3q | apply z4q) | exact HB.out)⟩



/-! ### spec_l4Take: function 70 -/

mutual
def spec_l4Take.j0 : Nat → List (S67) → Int → Int → Bool → Option (Int × ByteArray × Bool × Int × Int × Int × Int × Bool × Bool × Int × Int × Bool × Bool × Int × (List (S70)) × Int)
 | 0, _, _, _, _ => none
 | k + 1, x0, x1, x2, x35 => if x35 = true then (some (0, (⟨#[]⟩ : ByteArray), false, 0, 0, 0, 0, false, false, 0, 0, false, false, 0, ([] : List (S70)), (-1))) else (if 0 ≤ x1 then (if x1 < (x0.length : Int) then (spec_l4Take.l0 k x0 (wrap64 (x1 + 1)) x2 0 ((rd_T67 x0 x1).f0) ((rd_T67 x0 x1).f1) ((rd_T67 x0 x1).f2.f0) ((rd_T67 x0 x1).f2.f1) ((rd_T67 x0 x1).f2.f2) ((rd_T67 x0 x1).f3.f0) ((rd_T67 x0 x1).f3.f1) ((rd_T67 x0 x1).f3.f2) ((rd_T67 x0 x1).f3.f3) ((rd_T67 x0 x1).f4.f0) ((rd_T67 x0 x1).f4.f1) ((rd_T67 x0 x1).f4.f2) ((rd_T67 x0 x1).f4.f3) ((rd_T67 x0 x1).f5) ([] : List (S70))) else (none)) else (none))
def spec_l4Take.l0 : Nat → List (S67) → Int → Int → Int → Int → ByteArray → Bool → Int → Int → Int → Int → Bool → Bool → Int → Int → Bool → Bool → Int → List (S70) → Option (Int × ByteArray × Bool × Int × Int × Int × Int × Bool × Bool × Int × Int × Bool × Bool × Int × (List (S70)) × Int)
 | 0, _, _, _, _, _, _, _, _, _, _, _, _, _, _, _, _, _, _, _ => none
 | k + 1, x0, x1, x2, x9, x109000, x109001, x109002, x109003, x109004, x109005, x109006, x109007, x109008, x109009, x109010, x109011, x109012, x109013, x109014 => if x9 < x109013 then ((spec_l4Take.f k x0 x1 (wrap64 (x2 + 1))).bind fun bt109 => (if bt109.2.2.2.2.2.2.2.2.2.2.2.2.2.2.2 < 0 then (some (0, (⟨#[]⟩ : ByteArray), false, 0, 0, 0, 0, false, false, 0, 0, false, false, 0, ([] : List (S70)), (-1))) else (if x109014.length < 1099511627776 then (spec_l4Take.l0 k x0 bt109.2.2.2.2.2.2.2.2.2.2.2.2.2.2.2 x2 (wrap64 (x9 + 1)) x109000 x109001 x109002 x109003 x109004 x109005 x109006 x109007 x109008 x109009 x109010 x109011 x109012 x109013 (x109014 ++ [(⟨(⟨bt109.1, bt109.2.1, (⟨bt109.2.2.1, bt109.2.2.2.1, bt109.2.2.2.2.1⟩ : S65), (⟨bt109.2.2.2.2.2.1, bt109.2.2.2.2.2.2.1, bt109.2.2.2.2.2.2.2.1, bt109.2.2.2.2.2.2.2.2.1⟩ : S47), (⟨bt109.2.2.2.2.2.2.2.2.2.1, bt109.2.2.2.2.2.2.2.2.2.2.1, bt109.2.2.2.2.2.2.2.2.2.2.2.1, bt109.2.2.2.2.2.2.2.2.2.2.2.2.1⟩ : S47), bt109.2.2.2.2.2.2.2.2.2.2.2.2.2.1⟩ : S67), bt109.2.2.2.2.2.2.2.2.2.2.2.2.2.2.1⟩ : S70)])) else (none)))) else (some (x109000, x109001, x109002, x109003, x109004, x109005, x109006, x109007, x109008, x109009, x109010, x109011, x109012, x109013, x109014, x1))
def spec_l4Take.f : Nat → List (S67) → Int → Int → Option (Int × ByteArray × Bool × Int × Int × Int × Int × Bool × Bool × Int × Int × Bool × Bool × Int × (List (S70)) × Int)
 | 0, _, _, _ => none
 | k + 1, l0, a1, a2 => if a1 ≥ (l0.length : Int) then (spec_l4Take.j0 k l0 a1 a2 true) else (if a2 > 40 then (spec_l4Take.j0 k l0 a1 a2 true) else (if 0 ≤ a1 then (if a1 < (l0.length : Int) then (if ((rd_T67 l0 a1).f5) < 0 then (spec_l4Take.j0 k l0 a1 a2 true) else (spec_l4Take.j0 k l0 a1 a2 (decide (((rd_T67 l0 a1).f5) > 100)))) else (none)) else (none)))
end

end Go.Proofs.YtegdpgpbdcediaaGreatDoor.PFnExactGoodFormula
