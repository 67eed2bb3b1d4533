/- Words of the printed texts, joined. No condition of its own. -/
import Derived.Test.YteckidchnicjeaaGreatDoorProg
import Derived.Below
import Derived.Deep.Draws
import Derived.Deep.AppendLies
import Derived.Maps.AppendAt
import Derived.OwnWalk
import Derived.Laws.BytesArg
import Derived.Laws.MakeOwn
import Derived.Laws.OwnMore
import Derived.Deep.OwnRows
import Derived.Tactics
import Derived.Lib.ConvBytes
import Derived.Laws.Slices
import Derived.WalkKit
import Derived.KernelRfl
import Derived.RowKit3
import Derived.Deep.LoopGhost
import Derived.Deep.QuietTactic
import Derived.BigQuiet
import Derived.WideLaws
import Derived.Deep.DeepCutAuto
import Derived.Deep.CutBlock
import Derived.Deep.RegionHeld3
import Derived.Laws.Rows
import Derived.Lib.AppendStr
import Derived.ArgAppend
import Derived.Laws.IdiomCopy
import Derived.OrdersHeld
import Derived.Laws.BitsLemmas
import Derived.RowKit
import Derived.Lib.SliceRun
import Derived.Shelf.Abstract
import Derived.Defers
import Derived.Recover
import Derived.Test.YteckidchnicjeaaGreatDoorM2
import Derived.Test.YteckidchnicjeaaGreatDoorM0
import Derived.Test.YteckidchnicjeaaGreatDoorM1
section
namespace Go.Proofs.YteckidchnicjeaaGreatDoor.X
open Go.RowKit Go.Proofs.YteckidchnicjeaaGreatDoorW.PrintWords Go.Proofs.YteckidchnicjeaaGreatDoorW.PrintLast Go.Proofs.YteckidchnicjeaaGreatDoorW.PrintMore
attribute [local go_sem] max2_int min2_int max_two min_two max_three min_three max_four min_four
set_option linter.unusedVariables false
set_option linter.unusedSimpArgs false
def errW : Option Int → Value
 | none => .nilIface
 | some c => .iface 0 (.int .i64 c)
theorem errW_none : errW none = .nilIface := rfl
theorem errW_some (c : Int) : errW (some c) = .iface 0 (.int .i64 c) := rfl
theorem info2 : (Tryz.prog.info? 2).map (fun i => (i.zero, i.size, i.bytes)) = some (some (.int .i64 0), 1, 8) := by kernel_rfl
theorem info3 : (Tryz.prog.info? 3).map (fun i => (i.zero, i.size, i.bytes)) = some (some (.int .i64 0), 1, 8) := by kernel_rfl
theorem info9 : (Tryz.prog.info? 9).map (fun i => (i.zero, i.size, i.bytes)) = some (some (.string ⟨#[]⟩), 1, 16) := by kernel_rfl
theorem info36 : (Tryz.prog.info? 36).map (fun i => (i.zero, i.size, i.bytes)) = some (some (.agg #[(.int .i64 0), (.int .i64 0), (.int .i64 0), (.slice none 0 0), (.slice none 0 0)]), 5, 72) := by kernel_rfl
theorem info60 : (Tryz.prog.info? 60).map (fun i => (i.zero, i.size, i.bytes)) = some (some (.agg #[(.int .i64 0), (.string ⟨#[]⟩), (.int .i64 0), (.bool false)]), 4, 40) := by kernel_rfl
theorem info78 : (Tryz.prog.info? 78).map (fun i => (i.zero, i.size, i.bytes)) = some (some (.agg #[(.int .i64 0), (.string ⟨#[]⟩), (.int .i64 0), (.bool false), (.bool false)]), 5, 48) := by kernel_rfl
theorem info113 : (Tryz.prog.info? 113).map (fun i => (i.zero, i.size, i.bytes)) = some (some (.agg #[(.string ⟨#[]⟩), (.string ⟨#[]⟩)]), 2, 32) := by kernel_rfl
def rd_L1 (xs : List (List ByteArray)) (i : Int) : (List ByteArray) := xs.getD i.toNat ([] : List ByteArray)
theorem at_L1 {w : World} {A : Option Addr} {n : Nat} {xs : List (List ByteArray)} (h : Kd.C (Kd.slice 9 Kd.string) w A n xs) (i : Int) (h0 : 0 ≤ i) (h1 : i < n) : ∃ ad A0 c0, A = some ad ∧ w.cell? (ad.add i.toNat) = some (.slice A0 (rd_L1 xs i).length c0) ∧ (rd_L1 xs i).length ≤ c0 ∧ Kd.string.C w A0 (rd_L1 xs i).length (rd_L1 xs i) := by
 obtain ⟨ad, c, e, _, hK, hc0⟩ := Kd.C_get h ([] : List ByteArray) i h0 h1
 have hc : ∀ j u, c[j]? = some u → w.cell? (ad.add (i.toNat * 1 + j)) = some u := hc0
 obtain ⟨A0, c0, rfl, l0, g0⟩ := hK
 exact ⟨ad, A0, c0, e, by have hq := hc 0 _ rfl; rwa [Nat.mul_one, Nat.add_zero] at hq, l0, g0⟩
structure S58 where
 f0 : Int
 f1 : Bool
def z58 : S58 := ⟨(0 : Int), false⟩
def k58 : Kd S58 := Kd.iso (Kd.pair (Kd.int .i64) Kd.bool) (fun x : S58 => (x.f0, x.f1))
theorem k58_open {w : World} {x : S58} {cs : List Value} (h : k58.K w x cs) : cs = [.int .i64 x.f0, .bool x.f1] := by
 obtain ⟨_, _, rfl, rfl, rfl⟩ := h
 exact rfl
theorem k58_openM {w : World} {base : Nat} {ok : Nat → Prop} {x : S58} {cs : List Value} (h : k58.M w base ok x cs) : cs = [.int .i64 x.f0, .bool x.f1] := by
 obtain ⟨_, _, rfl, rfl, rfl⟩ := h
 exact rfl
theorem k58_mk (w : World) (x : S58)  : k58.K w x [.int .i64 x.f0, .bool x.f1] := ⟨[.int .i64 x.f0], [.bool x.f1], rfl, rfl, rfl⟩
theorem k58_mkM (w : World) (base : Nat) (ok : Nat → Prop) (x : S58)  : k58.M w base ok x [.int .i64 x.f0, .bool x.f1] := ⟨[.int .i64 x.f0], [.bool x.f1], rfl, rfl, rfl⟩
theorem k58_mkF (W : World) (ok : Nat → Prop) (x : S58) : Kd.FK k58 W ok x [.int .i64 x.f0, .bool x.f1] := fun W2 _ => k58_mk W2 x
def rd_T58 (xs : List S58) (i : Int) : S58 := xs.getD i.toNat z58
theorem at_T58 {w : World} {A : Option Addr} {n : Nat} {xs : List S58} (h : Kd.C k58 w A n xs) (i : Int) (h0 : 0 ≤ i) (h1 : i < n) : ∃ ad , A = some ad ∧ w.cell? (ad.add (i.toNat * 2)) = some (.int .i64 (rd_T58 xs i).f0) ∧ w.cell? ⟨(ad.add (i.toNat * 2)).block, (ad.add (i.toNat * 2)).off + 1, none⟩ = some (.bool (rd_T58 xs i).f1) := by
 obtain ⟨ad, c, e, _, hK, hc0⟩ := Kd.C_get h z58 i h0 h1
 have hc : ∀ j u, c[j]? = some u → w.cell? (ad.add (i.toNat * 2 + j)) = some u := hc0
 obtain rfl := k58_open hK
 exact ⟨ad, e, hc 0 _ rfl, by rw [← add_field _ _ 1 (by omega)]; exact hc 1 _ rfl⟩
structure S60 where
 f0 : Int
 f1 : ByteArray
 f2 : S58
def z60 : S60 := ⟨(0 : Int), (⟨#[]⟩ : ByteArray), z58⟩
def k60 : Kd S60 := Kd.iso (Kd.pair (Kd.int .i64) (Kd.pair Kd.string k58)) (fun x : S60 => (x.f0, x.f1, x.f2))
theorem k60_open {w : World} {x : S60} {cs : List Value} (h : k60.K w x cs) : cs = [.int .i64 x.f0, .string x.f1, .int .i64 x.f2.f0, .bool x.f2.f1] := by
 obtain ⟨_, _, rfl, rfl, ⟨_, _, rfl, rfl, s2⟩⟩ := h
 obtain rfl := k58_open s2
 exact rfl
theorem k60_openM {w : World} {base : Nat} {ok : Nat → Prop} {x : S60} {cs : List Value} (h : k60.M w base ok x cs) : cs = [.int .i64 x.f0, .string x.f1, .int .i64 x.f2.f0, .bool x.f2.f1] := by
 obtain ⟨_, _, rfl, rfl, ⟨_, _, rfl, rfl, s2⟩⟩ := h
 obtain rfl := k58_openM s2
 exact rfl
theorem k60_mk (w : World) (x : S60)  : k60.K w x [.int .i64 x.f0, .string x.f1, .int .i64 x.f2.f0, .bool x.f2.f1] := ⟨[.int .i64 x.f0], [.string x.f1, .int .i64 x.f2.f0, .bool x.f2.f1], rfl, rfl, ⟨[.string x.f1], [.int .i64 x.f2.f0, .bool x.f2.f1], rfl, rfl, (k58_mk w x.f2 )⟩⟩
theorem k60_mkM (w : World) (base : Nat) (ok : Nat → Prop) (x : S60)  : k60.M w base ok x [.int .i64 x.f0, .string x.f1, .int .i64 x.f2.f0, .bool x.f2.f1] := ⟨[.int .i64 x.f0], [.string x.f1, .int .i64 x.f2.f0, .bool x.f2.f1], rfl, rfl, ⟨[.string x.f1], [.int .i64 x.f2.f0, .bool x.f2.f1], rfl, rfl, (k58_mkM w base ok x.f2 )⟩⟩
theorem k60_mkF (W : World) (ok : Nat → Prop) (x : S60) : Kd.FK k60 W ok x [.int .i64 x.f0, .string x.f1, .int .i64 x.f2.f0, .bool x.f2.f1] := fun W2 _ => k60_mk W2 x
def rd_T60 (xs : List S60) (i : Int) : S60 := xs.getD i.toNat z60
theorem at_T60 {w : World} {A : Option Addr} {n : Nat} {xs : List S60} (h : Kd.C k60 w A n xs) (i : Int) (h0 : 0 ≤ i) (h1 : i < n) : ∃ ad , A = some ad ∧ w.cell? (ad.add (i.toNat * 4)) = some (.int .i64 (rd_T60 xs i).f0) ∧ w.cell? ⟨(ad.add (i.toNat * 4)).block, (ad.add (i.toNat * 4)).off + 1, none⟩ = some (.string (rd_T60 xs i).f1) ∧ w.cell? ⟨(ad.add (i.toNat * 4)).block, (ad.add (i.toNat * 4)).off + 2, none⟩ = some (.int .i64 (rd_T60 xs i).f2.f0) ∧ w.cell? ⟨(ad.add (i.toNat * 4)).block, (ad.add (i.toNat * 4)).off + 3, none⟩ = some (.bool (rd_T60 xs i).f2.f1) := by
 obtain ⟨ad, c, e, _, hK, hc0⟩ := Kd.C_get h z60 i h0 h1
 have hc : ∀ j u, c[j]? = some u → w.cell? (ad.add (i.toNat * 4 + j)) = some u := hc0
 obtain rfl := k60_open hK
 exact ⟨ad, e, hc 0 _ rfl, by rw [← add_field _ _ 1 (by omega)]; exact hc 1 _ rfl, by rw [← add_field _ _ 2 (by omega)]; exact hc 2 _ rfl, by rw [← add_field _ _ 3 (by omega)]; exact hc 3 _ rfl⟩
structure S78 where
 f0 : S60
 f1 : Bool
def z78 : S78 := ⟨z60, false⟩
def k78 : Kd S78 := Kd.iso (Kd.pair k60 Kd.bool) (fun x : S78 => (x.f0, x.f1))
theorem k78_open {w : World} {x : S78} {cs : List Value} (h : k78.K w x cs) : cs = [.int .i64 x.f0.f0, .string x.f0.f1, .int .i64 x.f0.f2.f0, .bool x.f0.f2.f1, .bool x.f1] := by
 obtain ⟨_, _, rfl, s0, rfl⟩ := h
 obtain rfl := k60_open s0
 exact rfl
theorem k78_openM {w : World} {base : Nat} {ok : Nat → Prop} {x : S78} {cs : List Value} (h : k78.M w base ok x cs) : cs = [.int .i64 x.f0.f0, .string x.f0.f1, .int .i64 x.f0.f2.f0, .bool x.f0.f2.f1, .bool x.f1] := by
 obtain ⟨_, _, rfl, s0, rfl⟩ := h
 obtain rfl := k60_openM s0
 exact rfl
theorem k78_mk (w : World) (x : S78)  : k78.K w x [.int .i64 x.f0.f0, .string x.f0.f1, .int .i64 x.f0.f2.f0, .bool x.f0.f2.f1, .bool x.f1] := ⟨[.int .i64 x.f0.f0, .string x.f0.f1, .int .i64 x.f0.f2.f0, .bool x.f0.f2.f1], [.bool x.f1], rfl, (k60_mk w x.f0 ), rfl⟩
theorem k78_mkM (w : World) (base : Nat) (ok : Nat → Prop) (x : S78)  : k78.M w base ok x [.int .i64 x.f0.f0, .string x.f0.f1, .int .i64 x.f0.f2.f0, .bool x.f0.f2.f1, .bool x.f1] := ⟨[.int .i64 x.f0.f0, .string x.f0.f1, .int .i64 x.f0.f2.f0, .bool x.f0.f2.f1], [.bool x.f1], rfl, (k60_mkM w base ok x.f0 ), rfl⟩
theorem k78_mkF (W : World) (ok : Nat → Prop) (x : S78) : Kd.FK k78 W ok x [.int .i64 x.f0.f0, .string x.f0.f1, .int .i64 x.f0.f2.f0, .bool x.f0.f2.f1, .bool x.f1] := fun W2 _ => k78_mk W2 x
def rd_T78 (xs : List S78) (i : Int) : S78 := xs.getD i.toNat z78
theorem at_T78 {w : World} {A : Option Addr} {n : Nat} {xs : List S78} (h : Kd.C k78 w A n xs) (i : Int) (h0 : 0 ≤ i) (h1 : i < n) : ∃ ad , A = some ad ∧ w.cell? (ad.add (i.toNat * 5)) = some (.int .i64 (rd_T78 xs i).f0.f0) ∧ w.cell? ⟨(ad.add (i.toNat * 5)).block, (ad.add (i.toNat * 5)).off + 1, none⟩ = some (.string (rd_T78 xs i).f0.f1) ∧ w.cell? ⟨(ad.add (i.toNat * 5)).block, (ad.add (i.toNat * 5)).off + 2, none⟩ = some (.int .i64 (rd_T78 xs i).f0.f2.f0) ∧ w.cell? ⟨(ad.add (i.toNat * 5)).block, (ad.add (i.toNat * 5)).off + 3, none⟩ = some (.bool (rd_T78 xs i).f0.f2.f1) ∧ w.cell? ⟨(ad.add (i.toNat * 5)).block, (ad.add (i.toNat * 5)).off + 4, none⟩ = some (.bool (rd_T78 xs i).f1) := by
 obtain ⟨ad, c, e, _, hK, hc0⟩ := Kd.C_get h z78 i h0 h1
 have hc : ∀ j u, c[j]? = some u → w.cell? (ad.add (i.toNat * 5 + j)) = some u := hc0
 obtain rfl := k78_open hK
 exact ⟨ad, e, hc 0 _ rfl, by rw [← add_field _ _ 1 (by omega)]; exact hc 1 _ rfl, by rw [← add_field _ _ 2 (by omega)]; exact hc 2 _ rfl, by rw [← add_field _ _ 3 (by omega)]; exact hc 3 _ rfl, by rw [← add_field _ _ 4 (by omega)]; exact hc 4 _ rfl⟩
structure S113 where
 f0 : ByteArray
 f1 : ByteArray
def z113 : S113 := ⟨(⟨#[]⟩ : ByteArray), (⟨#[]⟩ : ByteArray)⟩
def k113 : Kd S113 := Kd.iso (Kd.pair Kd.string Kd.string) (fun x : S113 => (x.f0, x.f1))
theorem k113_open {w : World} {x : S113} {cs : List Value} (h : k113.K w x cs) : cs = [.string x.f0, .string x.f1] := by
 obtain ⟨_, _, rfl, rfl, rfl⟩ := h
 exact rfl
theorem k113_openM {w : World} {base : Nat} {ok : Nat → Prop} {x : S113} {cs : List Value} (h : k113.M w base ok x cs) : cs = [.string x.f0, .string x.f1] := by
 obtain ⟨_, _, rfl, rfl, rfl⟩ := h
 exact rfl
theorem k113_mk (w : World) (x : S113)  : k113.K w x [.string x.f0, .string x.f1] := ⟨[.string x.f0], [.string x.f1], rfl, rfl, rfl⟩
theorem k113_mkM (w : World) (base : Nat) (ok : Nat → Prop) (x : S113)  : k113.M w base ok x [.string x.f0, .string x.f1] := ⟨[.string x.f0], [.string x.f1], rfl, rfl, rfl⟩
theorem k113_mkF (W : World) (ok : Nat → Prop) (x : S113) : Kd.FK k113 W ok x [.string x.f0, .string x.f1] := fun W2 _ => k113_mk W2 x
def rd_T113 (xs : List S113) (i : Int) : S113 := xs.getD i.toNat z113
theorem at_T113 {w : World} {A : Option Addr} {n : Nat} {xs : List S113} (h : Kd.C k113 w A n xs) (i : Int) (h0 : 0 ≤ i) (h1 : i < n) : ∃ ad , A = some ad ∧ w.cell? (ad.add (i.toNat * 2)) = some (.string (rd_T113 xs i).f0) ∧ w.cell? ⟨(ad.add (i.toNat * 2)).block, (ad.add (i.toNat * 2)).off + 1, none⟩ = some (.string (rd_T113 xs i).f1) := by
 obtain ⟨ad, c, e, _, hK, hc0⟩ := Kd.C_get h z113 i h0 h1
 have hc : ∀ j u, c[j]? = some u → w.cell? (ad.add (i.toNat * 2 + j)) = some u := hc0
 obtain rfl := k113_open hK
 exact ⟨ad, e, hc 0 _ rfl, by rw [← add_field _ _ 1 (by omega)]; exact hc 1 _ rfl⟩
def rd_L9 (xs : List (List S113)) (i : Int) : (List S113) := xs.getD i.toNat ([] : List S113)
theorem at_L9 {w : World} {A : Option Addr} {n : Nat} {xs : List (List S113)} (h : Kd.C (Kd.slice 113 k113) w A n xs) (i : Int) (h0 : 0 ≤ i) (h1 : i < n) : ∃ ad A0 c0, A = some ad ∧ w.cell? (ad.add i.toNat) = some (.slice A0 (rd_L9 xs i).length c0) ∧ (rd_L9 xs i).length ≤ c0 ∧ k113.C w A0 (rd_L9 xs i).length (rd_L9 xs i) := by
 obtain ⟨ad, c, e, _, hK, hc0⟩ := Kd.C_get h ([] : List S113) i h0 h1
 have hc : ∀ j u, c[j]? = some u → w.cell? (ad.add (i.toNat * 1 + j)) = some u := hc0
 obtain ⟨A0, c0, rfl, l0, g0⟩ := hK
 exact ⟨ad, A0, c0, e, by have hq := hc 0 _ rfl; rwa [Nat.mul_one, Nat.add_zero] at hq, l0, g0⟩
def rd_L11 (xs : List (List S60)) (i : Int) : (List S60) := xs.getD i.toNat ([] : List S60)
theorem at_L11 {w : World} {A : Option Addr} {n : Nat} {xs : List (List S60)} (h : Kd.C (Kd.slice 60 k60) w A n xs) (i : Int) (h0 : 0 ≤ i) (h1 : i < n) : ∃ ad A0 c0, A = some ad ∧ w.cell? (ad.add i.toNat) = some (.slice A0 (rd_L11 xs i).length c0) ∧ (rd_L11 xs i).length ≤ c0 ∧ k60.C w A0 (rd_L11 xs i).length (rd_L11 xs i) := by
 obtain ⟨ad, c, e, _, hK, hc0⟩ := Kd.C_get h ([] : List S60) i h0 h1
 have hc : ∀ j u, c[j]? = some u → w.cell? (ad.add (i.toNat * 1 + j)) = some u := hc0
 obtain ⟨A0, c0, rfl, l0, g0⟩ := hK
 exact ⟨ad, A0, c0, e, by have hq := hc 0 _ rfl; rwa [Nat.mul_one, Nat.add_zero] at hq, l0, g0⟩
structure S33 where
 f0 : Int
 f1 : Int
 f2 : (List S60)
def z33 : S33 := ⟨(0 : Int), (0 : Int), ([] : List S60)⟩
def k33 : Kd S33 := Kd.iso (Kd.pair (Kd.int .i64) (Kd.pair (Kd.int .i64) (Kd.slice 60 k60))) (fun x : S33 => (x.f0, x.f1, x.f2))
theorem k33_open {w : World} {x : S33} {cs : List Value} (h : k33.K w x cs) : ∃ A2 c2, cs = [.int .i64 x.f0, .int .i64 x.f1, .slice A2 x.f2.length c2] ∧ x.f2.length ≤ c2 ∧ k60.C w A2 x.f2.length x.f2 := by
 obtain ⟨_, _, rfl, rfl, ⟨_, _, rfl, rfl, ⟨A2, c2, rfl, l2, g2⟩⟩⟩ := h
 exact ⟨A2, c2, rfl, l2, g2⟩
theorem k33_openM {w : World} {base : Nat} {ok : Nat → Prop} {x : S33} {cs : List Value} (h : k33.M w base ok x cs) : ∃ v2, cs = [.int .i64 x.f0, .int .i64 x.f1, v2] ∧ k60.R 60 w base ok v2 x.f2 := by
 obtain ⟨_, _, rfl, rfl, ⟨_, _, rfl, rfl, ⟨v2, rfl, g2⟩⟩⟩ := h
 exact ⟨v2, rfl, g2⟩
theorem k33_mk (w : World) (x : S33) {A2 : Option Addr} {c2 : Nat} (l2 : x.f2.length ≤ c2) (g2 : k60.C w A2 x.f2.length x.f2) : k33.K w x [.int .i64 x.f0, .int .i64 x.f1, .slice A2 x.f2.length c2] := ⟨[.int .i64 x.f0], [.int .i64 x.f1, .slice A2 x.f2.length c2], rfl, rfl, ⟨[.int .i64 x.f1], [.slice A2 x.f2.length c2], rfl, rfl, ⟨A2, c2, rfl, l2, g2⟩⟩⟩
theorem k33_mkM (w : World) (base : Nat) (ok : Nat → Prop) (x : S33) {v2 : Value} (g2 : k60.R 60 w base ok v2 x.f2) : k33.M w base ok x [.int .i64 x.f0, .int .i64 x.f1, v2] := ⟨[.int .i64 x.f0], [.int .i64 x.f1, v2], rfl, rfl, ⟨[.int .i64 x.f1], [v2], rfl, rfl, ⟨v2, rfl, g2⟩⟩⟩
theorem k33_openF {W : World} {ok : Nat → Prop} {x : S33} {cs : List Value} (h : Kd.FK k33 W ok x cs) : ∃ A2 c2, cs = [.int .i64 x.f0, .int .i64 x.f1, .slice A2 x.f2.length c2] ∧ x.f2.length ≤ c2 ∧ Kd.F k60 W ok A2 x.f2.length x.f2 := by
 obtain ⟨A2, c2, rfl, l2, _⟩ := k33_open (Kd.FK_now h)
 exact ⟨A2, c2, rfl, l2, (fun W' hW => by obtain ⟨A2_, c2_, he, l2_, g2_⟩ := k33_open (h W' hW); injection (Option.some.inj (show some (Value.slice A2 x.f2.length c2) = some (Value.slice A2_ x.f2.length c2_) from congrArg (fun l => l[2]?) he)) with ha_ _ _; rw [ha_]; exact g2_)⟩
theorem k33_mkF (W : World) (ok : Nat → Prop) (x : S33) {A2 : Option Addr} {c2 : Nat} (l2 : x.f2.length ≤ c2) (g2 : Kd.F k60 W ok A2 x.f2.length x.f2) : Kd.FK k33 W ok x [.int .i64 x.f0, .int .i64 x.f1, .slice A2 x.f2.length c2] := fun W2 hW => k33_mk W2 x l2 (g2 W2 hW)
def rd_T33 (xs : List S33) (i : Int) : S33 := xs.getD i.toNat z33
theorem at_T33 {w : World} {A : Option Addr} {n : Nat} {xs : List S33} (h : Kd.C k33 w A n xs) (i : Int) (h0 : 0 ≤ i) (h1 : i < n) : ∃ ad A2 c2, A = some ad ∧ w.cell? (ad.add (i.toNat * 3)) = some (.int .i64 (rd_T33 xs i).f0) ∧ w.cell? ⟨(ad.add (i.toNat * 3)).block, (ad.add (i.toNat * 3)).off + 1, none⟩ = some (.int .i64 (rd_T33 xs i).f1) ∧ w.cell? ⟨(ad.add (i.toNat * 3)).block, (ad.add (i.toNat * 3)).off + 2, none⟩ = some (.slice A2 (rd_T33 xs i).f2.length c2) ∧ (rd_T33 xs i).f2.length ≤ c2 ∧ k60.C w A2 (rd_T33 xs i).f2.length (rd_T33 xs i).f2 := by
 obtain ⟨ad, c, e, _, hK, hc0⟩ := Kd.C_get h z33 i h0 h1
 have hc : ∀ j u, c[j]? = some u → w.cell? (ad.add (i.toNat * 3 + j)) = some u := hc0
 obtain ⟨A2, c2, rfl, l2, g2⟩ := k33_open hK
 exact ⟨ad, A2, c2, e, hc 0 _ rfl, by rw [← add_field _ _ 1 (by omega)]; exact hc 1 _ rfl, by rw [← add_field _ _ 2 (by omega)]; exact hc 2 _ rfl, l2, g2⟩
def rd_L13 (xs : List (List S78)) (i : Int) : (List S78) := xs.getD i.toNat ([] : List S78)
theorem at_L13 {w : World} {A : Option Addr} {n : Nat} {xs : List (List S78)} (h : Kd.C (Kd.slice 78 k78) w A n xs) (i : Int) (h0 : 0 ≤ i) (h1 : i < n) : ∃ ad A0 c0, A = some ad ∧ w.cell? (ad.add i.toNat) = some (.slice A0 (rd_L13 xs i).length c0) ∧ (rd_L13 xs i).length ≤ c0 ∧ k78.C w A0 (rd_L13 xs i).length (rd_L13 xs i) := by
 obtain ⟨ad, c, e, _, hK, hc0⟩ := Kd.C_get h ([] : List S78) i h0 h1
 have hc : ∀ j u, c[j]? = some u → w.cell? (ad.add (i.toNat * 1 + j)) = some u := hc0
 obtain ⟨A0, c0, rfl, l0, g0⟩ := hK
 exact ⟨ad, A0, c0, e, by have hq := hc 0 _ rfl; rwa [Nat.mul_one, Nat.add_zero] at hq, l0, g0⟩
structure S36 where
 f0 : Int
 f1 : Int
 f2 : Int
 f3 : (List S60)
 f4 : (List S78)
def z36 : S36 := ⟨(0 : Int), (0 : Int), (0 : Int), ([] : List S60), ([] : List S78)⟩
def k36 : Kd S36 := Kd.iso (Kd.pair (Kd.int .i64) (Kd.pair (Kd.int .i64) (Kd.pair (Kd.int .i64) (Kd.pair (Kd.slice 60 k60) (Kd.slice 78 k78))))) (fun x : S36 => (x.f0, x.f1, x.f2, x.f3, x.f4))
theorem k36_open {w : World} {x : S36} {cs : List Value} (h : k36.K w x cs) : ∃ A3 c3 A4 c4, cs = [.int .i64 x.f0, .int .i64 x.f1, .int .i64 x.f2, .slice A3 x.f3.length c3, .slice A4 x.f4.length c4] ∧ x.f3.length ≤ c3 ∧ k60.C w A3 x.f3.length x.f3 ∧ x.f4.length ≤ c4 ∧ k78.C w A4 x.f4.length x.f4 := by
 obtain ⟨_, _, rfl, rfl, ⟨_, _, rfl, rfl, ⟨_, _, rfl, rfl, ⟨_, _, rfl, ⟨A3, c3, rfl, l3, g3⟩, ⟨A4, c4, rfl, l4, g4⟩⟩⟩⟩⟩ := h
 exact ⟨A3, c3, A4, c4, rfl, l3, g3, l4, g4⟩
theorem k36_openM {w : World} {base : Nat} {ok : Nat → Prop} {x : S36} {cs : List Value} (h : k36.M w base ok x cs) : ∃ v3 v4, cs = [.int .i64 x.f0, .int .i64 x.f1, .int .i64 x.f2, v3, v4] ∧ k60.R 60 w base ok v3 x.f3 ∧ k78.R 78 w base ok v4 x.f4 := by
 obtain ⟨_, _, rfl, rfl, ⟨_, _, rfl, rfl, ⟨_, _, rfl, rfl, ⟨_, _, rfl, ⟨v3, rfl, g3⟩, ⟨v4, rfl, g4⟩⟩⟩⟩⟩ := h
 exact ⟨v3, v4, rfl, g3, g4⟩
theorem k36_mk (w : World) (x : S36) {A3 : Option Addr} {c3 : Nat} (l3 : x.f3.length ≤ c3) (g3 : k60.C w A3 x.f3.length x.f3) {A4 : Option Addr} {c4 : Nat} (l4 : x.f4.length ≤ c4) (g4 : k78.C w A4 x.f4.length x.f4) : k36.K w x [.int .i64 x.f0, .int .i64 x.f1, .int .i64 x.f2, .slice A3 x.f3.length c3, .slice A4 x.f4.length c4] := ⟨[.int .i64 x.f0], [.int .i64 x.f1, .int .i64 x.f2, .slice A3 x.f3.length c3, .slice A4 x.f4.length c4], rfl, rfl, ⟨[.int .i64 x.f1], [.int .i64 x.f2, .slice A3 x.f3.length c3, .slice A4 x.f4.length c4], rfl, rfl, ⟨[.int .i64 x.f2], [.slice A3 x.f3.length c3, .slice A4 x.f4.length c4], rfl, rfl, ⟨[.slice A3 x.f3.length c3], [.slice A4 x.f4.length c4], rfl, ⟨A3, c3, rfl, l3, g3⟩, ⟨A4, c4, rfl, l4, g4⟩⟩⟩⟩⟩
theorem k36_mkM (w : World) (base : Nat) (ok : Nat → Prop) (x : S36) {v3 : Value} (g3 : k60.R 60 w base ok v3 x.f3) {v4 : Value} (g4 : k78.R 78 w base ok v4 x.f4) : k36.M w base ok x [.int .i64 x.f0, .int .i64 x.f1, .int .i64 x.f2, v3, v4] := ⟨[.int .i64 x.f0], [.int .i64 x.f1, .int .i64 x.f2, v3, v4], rfl, rfl, ⟨[.int .i64 x.f1], [.int .i64 x.f2, v3, v4], rfl, rfl, ⟨[.int .i64 x.f2], [v3, v4], rfl, rfl, ⟨[v3], [v4], rfl, ⟨v3, rfl, g3⟩, ⟨v4, rfl, g4⟩⟩⟩⟩⟩
theorem k36_openF {W : World} {ok : Nat → Prop} {x : S36} {cs : List Value} (h : Kd.FK k36 W ok x cs) : ∃ A3 c3 A4 c4, cs = [.int .i64 x.f0, .int .i64 x.f1, .int .i64 x.f2, .slice A3 x.f3.length c3, .slice A4 x.f4.length c4] ∧ x.f3.length ≤ c3 ∧ Kd.F k60 W ok A3 x.f3.length x.f3 ∧ x.f4.length ≤ c4 ∧ Kd.F k78 W ok A4 x.f4.length x.f4 := by
 obtain ⟨A3, c3, A4, c4, rfl, l3, _, l4, _⟩ := k36_open (Kd.FK_now h)
 exact ⟨A3, c3, A4, c4, rfl, l3, (fun W' hW => by obtain ⟨A3_, c3_, A4_, c4_, he, l3_, g3_, l4_, g4_⟩ := k36_open (h W' hW); injection (Option.some.inj (show some (Value.slice A3 x.f3.length c3) = some (Value.slice A3_ x.f3.length c3_) from congrArg (fun l => l[3]?) he)) with ha_ _ _; rw [ha_]; exact g3_), l4, (fun W' hW => by obtain ⟨A3_, c3_, A4_, c4_, he, l3_, g3_, l4_, g4_⟩ := k36_open (h W' hW); injection (Option.some.inj (show some (Value.slice A4 x.f4.length c4) = some (Value.slice A4_ x.f4.length c4_) from congrArg (fun l => l[4]?) he)) with ha_ _ _; rw [ha_]; exact g4_)⟩
theorem k36_mkF (W : World) (ok : Nat → Prop) (x : S36) {A3 : Option Addr} {c3 : Nat} (l3 : x.f3.length ≤ c3) (g3 : Kd.F k60 W ok A3 x.f3.length x.f3) {A4 : Option Addr} {c4 : Nat} (l4 : x.f4.length ≤ c4) (g4 : Kd.F k78 W ok A4 x.f4.length x.f4) : Kd.FK k36 W ok x [.int .i64 x.f0, .int .i64 x.f1, .int .i64 x.f2, .slice A3 x.f3.length c3, .slice A4 x.f4.length c4] := fun W2 hW => k36_mk W2 x l3 (g3 W2 hW) l4 (g4 W2 hW)
def rd_T36 (xs : List S36) (i : Int) : S36 := xs.getD i.toNat z36
theorem at_T36 {w : World} {A : Option Addr} {n : Nat} {xs : List S36} (h : Kd.C k36 w A n xs) (i : Int) (h0 : 0 ≤ i) (h1 : i < n) : ∃ ad A3 c3 A4 c4, A = some ad ∧ w.cell? (ad.add (i.toNat * 5)) = some (.int .i64 (rd_T36 xs i).f0) ∧ w.cell? ⟨(ad.add (i.toNat * 5)).block, (ad.add (i.toNat * 5)).off + 1, none⟩ = some (.int .i64 (rd_T36 xs i).f1) ∧ w.cell? ⟨(ad.add (i.toNat * 5)).block, (ad.add (i.toNat * 5)).off + 2, none⟩ = some (.int .i64 (rd_T36 xs i).f2) ∧ w.cell? ⟨(ad.add (i.toNat * 5)).block, (ad.add (i.toNat * 5)).off + 3, none⟩ = some (.slice A3 (rd_T36 xs i).f3.length c3) ∧ w.cell? ⟨(ad.add (i.toNat * 5)).block, (ad.add (i.toNat * 5)).off + 4, none⟩ = some (.slice A4 (rd_T36 xs i).f4.length c4) ∧ (rd_T36 xs i).f3.length ≤ c3 ∧ k60.C w A3 (rd_T36 xs i).f3.length (rd_T36 xs i).f3 ∧ (rd_T36 xs i).f4.length ≤ c4 ∧ k78.C w A4 (rd_T36 xs i).f4.length (rd_T36 xs i).f4 := by
 obtain ⟨ad, c, e, _, hK, hc0⟩ := Kd.C_get h z36 i h0 h1
 have hc : ∀ j u, c[j]? = some u → w.cell? (ad.add (i.toNat * 5 + j)) = some u := hc0
 obtain ⟨A3, c3, A4, c4, rfl, l3, g3, l4, g4⟩ := k36_open hK
 exact ⟨ad, A3, c3, A4, c4, e, hc 0 _ rfl, by rw [← add_field _ _ 1 (by omega)]; exact hc 1 _ rfl, by rw [← add_field _ _ 2 (by omega)]; exact hc 2 _ rfl, by rw [← add_field _ _ 3 (by omega)]; exact hc 3 _ rfl, by rw [← add_field _ _ 4 (by omega)]; exact hc 4 _ rfl, l3, g3, l4, g4⟩
end Go.Proofs.YteckidchnicjeaaGreatDoor.X
end
section
namespace Go.Proofs.YteckidchnicjeaaGreatDoor.X
open Go.RowKit Go.Proofs.YteckidchnicjeaaGreatDoorW.PrintWords Go.Proofs.YteckidchnicjeaaGreatDoorW.PrintLast Go.Proofs.YteckidchnicjeaaGreatDoorW.PrintMore
theorem gd {c : Prop} [Decidable c] {α : Type} {a : Option α} {r : α} (h : (if c then a else none) = some r) : c ∧ a = some r := by
 by_cases hc : c
 ·
  rw [if_pos hc] at h
  exact ⟨hc, h⟩
 ·
  rw [if_neg hc] at h
  cases h
theorem gn {c : Prop} [Decidable c] {α : Type} {a : Option α} {r : α} (h : (if c then none else a) = some r) : ¬ c ∧ a = some r := by
 by_cases hc : c
 ·
  rw [if_pos hc] at h
  cases h
 ·
  rw [if_neg hc] at h
  exact ⟨hc, h⟩
class inductive Up : World → World → Prop
 | refl (w : World) : Up w w
 | alloc {w w' : World} (h : Up w w') (o : Obj) : Up w (w'.alloc o)
 | drewN {w w' : World} (h : Up w w') (n : Nat) : Up w (w'.drewN n)
 | drew {w w' : World} (h : Up w w') : Up w w'.drew
instance (priority := low) up0 (w : World) : Up w w := .refl w
instance up1 {w w' : World} [h : Up w w'] (o : Obj) : Up w (w'.alloc o) := .alloc h o
instance up2 {w w' : World} [h : Up w w'] (n : Nat) : Up w (w'.drewN n) := .drewN h n
instance up3 {w w' : World} [h : Up w w'] : Up w w'.drew := .drew h
theorem uB {w w' : World} [u : Up w w'] {g : Nat} {o : Obj} (h : w.heap[g]? = some o) : w'.heap[g]? = some o := by
 induction u with
 | refl => exact h
 | alloc _ o ih => exact blk_alloc ih o
 | drewN _ n ih => exact blk_drewN ih n
 | drew _ ih => exact blk_drew ih
theorem uW {w w' : World} [u : Up w w'] {v : World} (h : Below v.heap.size v w) : Below v.heap.size v w' := by
 induction u with
 | refl => exact h
 | alloc _ o ih => exact below_alloc ih o
 | drewN _ n ih => exact pw_below_drewN ih n
 | drew _ ih => exact below_drew1 ih
theorem uR {α : Type} {d : Kd α} {e : TypeId} {w w' : World} [u : Up w w'] {b : Nat} {ok : Nat → Prop} {v : Value} {xs : List α} (h : Kd.R d e w b ok v xs) : Kd.R d e w' b ok v xs := by
 induction u with
 | refl => exact h
 | alloc _ o ih => exact Kd.R_alloc ih o
 | drewN _ n ih => exact Kd.R_drewN ih n
 | drew _ ih => exact Kd.R_drew ih
theorem uQ {α : Type} {d : Kd α} {e : TypeId} {w w' : World} [u : Up w w'] {b : Nat} {ok : Nat → Prop} {v : Value} {xs : List α} (h : Kd.Q d e w b ok v xs) : Kd.Q d e w' b ok v xs := by
 induction u with
 | refl => exact h
 | alloc _ o ih => exact Kd.Q_alloc ih o
 | drewN _ n ih => exact Kd.Q_drewN ih n
 | drew _ ih => exact Kd.Q_drew ih
theorem uV {α : Type} {d : Kd α} {e : TypeId} {w w' : World} [u : Up w w'] {b : Nat} {ok : Nat → Prop} {v : Value} {xs : List α} (h : Kd.V d e w b ok v xs) : Kd.V d e w' b ok v xs := by
 induction u with
 | refl => exact h
 | alloc _ o ih => exact Kd.V_alloc ih o
 | drewN _ n ih => exact Kd.V_drewN ih n
 | drew _ ih => exact Kd.V_drew ih
theorem cB {w w1 w2 : World} [u : Up w w1] {g : Nat} {o : Obj} (h : Aside0 (w.heap[g]? = some o)) (hb : Below w1.heap.size w1 w2) : Aside0 (w2.heap[g]? = some o) := ⟨blk_below (uB h.out) hb⟩
theorem cW {v w w1 w2 : World} [u : Up w w1] (h : Aside0 (Below v.heap.size v w)) (hb : Below w1.heap.size w1 w2) : Aside0 (Below v.heap.size v w2) := ⟨below_step (uW h.out) hb⟩
theorem cR {α : Type} {d : Kd α} {e : TypeId} {w w1 w2 : World} [u : Up w w1] {b : Nat} {ok : Nat → Prop} {v : Value} {xs : List α} (h : Aside0 (Kd.R d e w b ok v xs)) (hb : Below w1.heap.size w1 w2) : Aside0 (Kd.R d e w2 b ok v xs) := ⟨Kd.R_below (uR h.out) hb⟩
theorem cV {α : Type} {d : Kd α} {e : TypeId} {w w1 w2 : World} [u : Up w w1] {b : Nat} {ok : Nat → Prop} {v : Value} {xs : List α} (h : Aside0 (Kd.V d e w b ok v xs)) (hb : Below w1.heap.size w1 w2) : Aside0 (Kd.V d e w2 b ok v xs) := ⟨Kd.V_below (uV h.out) hb⟩
class inductive Fs (g : Nat) (w : World) : World → Prop
 | refl : Fs g w w
 | alloc {w' : World} (h : Fs g w w') (o : Obj) : Fs g w (w'.alloc o)
 | drewN {w' : World} (h : Fs g w w') (n : Nat) : Fs g w (w'.drewN n)
 | drew {w' : World} (h : Fs g w w') : Fs g w w'.drew
 | set {w' : World} (h : Fs g w w') (i : Nat) (u : Value) : Fs g w (w'.setCell ⟨g, i, none⟩ u)
instance (priority := low) fs0 (g : Nat) (w : World) : Fs g w w := .refl
instance fs1 {g : Nat} {w w' : World} [h : Fs g w w'] (o : Obj) : Fs g w (w'.alloc o) := .alloc h o
instance fs2 {g : Nat} {w w' : World} [h : Fs g w w'] (n : Nat) : Fs g w (w'.drewN n) := .drewN h n
instance fs3 {g : Nat} {w w' : World} [h : Fs g w w'] : Fs g w w'.drew := .drew h
instance fs4 {g : Nat} {w w' : World} [h : Fs g w w'] (i : Nat) (u : Value) : Fs g w (w'.setCell ⟨g, i, none⟩ u) := .set h i u
theorem fR_ {α : Type} {d : Kd α} {e : TypeId} {g : Nat} {w w' : World} [f : Fs g w w'] {b : Nat} {ok : Nat → Prop} {v : Value} {xs : List α} (h : Kd.R d e w b ok v xs) (hn : ∀ k, ok k → k ≠ g) : Kd.R d e w' b ok v xs := by
 induction f with
 | refl => exact h
 | alloc _ o ih => exact Kd.R_alloc ih o
 | drewN _ n ih => exact Kd.R_drewN ih n
 | drew _ ih => exact Kd.R_drew ih
 | set _ i u ih => exact Kd.R_far ih hn u
theorem fR {α : Type} {d : Kd α} {e t : TypeId} {g : Nat} {cs : Array Value} {w w' : World} [f : Fs g w w'] {b : Nat} {ok : Nat → Prop} {v : Value} {xs : List α} (h : Aside0 (Kd.R d e w b ok v xs)) (hb : Aside0 (w.heap[g]? = some (.cells cs t (0, 0)))) (ht : ∀ q, q ∈ e :: d.E → q ≠ t := by decide) : Kd.R d e w' b ok v xs :=
 Kd.R_mono (fR_ (Kd.R_types h.out hb.out ht) (fun _ h => h.2)) (fun _ h => h.1)
theorem fcR {α : Type} {d : Kd α} {e t : TypeId} {g : Nat} {cs : Array Value} {w w' w2 : World} [f : Fs g w w'] {b : Nat} {ok : Nat → Prop} {v : Value} {xs : List α} (h : Aside0 (Kd.R d e w b ok v xs)) (hb : Aside0 (w.heap[g]? = some (.cells cs t (0, 0)))) (hw : Below w'.heap.size w' w2) (ht : ∀ q, q ∈ e :: d.E → q ≠ t := by decide) : Aside0 (Kd.R d e w2 b ok v xs) := ⟨Kd.R_below (fR h hb ht) hw⟩
theorem fgR {α : Type} {d : Kd α} {e t : TypeId} {g : Nat} {cs : Array Value} {w w' w2 : World} (hw : w2 = w') [f : Fs g w w'] {b : Nat} {ok ok' : Nat → Prop} {v : Value} {xs : List α} (h : Aside0 (Kd.R d e w b ok v xs)) (hb : Aside0 (w.heap[g]? = some (.cells cs t (0, 0)))) (ho : ∀ k, ok k ∧ k ≠ g → ok' k) (ht : ∀ q, q ∈ e :: d.E → q ≠ t := by decide) : Aside0 (Kd.R d e w2 b ok' v xs) := ⟨hw ▸ Kd.R_mono (fR_ (Kd.R_types h.out hb.out ht) (fun _ h => h.2)) ho⟩
theorem fgN {α : Type} {d : Kd α} {e : TypeId} {g : Nat} {w w' w2 : World} (hw : w2 = w') [f : Fs g w w'] {b : Nat} {ok ok' : Nat → Prop} {v : Value} {xs : List α} (h : Aside0 (Kd.R d e w b ok v xs)) (hn : ∀ k, ok k → ok k ∧ k ≠ g) (ho : ∀ k, ok k ∧ k ≠ g → ok' k) : Aside0 (Kd.R d e w2 b ok' v xs) := ⟨hw ▸ Kd.R_mono (fR_ (Kd.R_mono h.out hn) (fun _ h => h.2)) ho⟩
theorem fgF {g p : Nat} {o : Obj} {w w' w2 : World} (hw : w2 = w') [f : Fs p w w'] (h : Aside0 (w.heap[g]? = some o)) (hn : Aside0 (g ≠ p)) : Aside0 (w2.heap[g]? = some o) := by
 refine ⟨hw ▸ ?_⟩
 clear hw
 induction f with
 | refl => exact h.out
 | alloc _ o ih => exact blk_alloc ih o
 | drewN _ n ih => exact blk_drewN ih n
 | drew _ ih => exact blk_drew ih
 | set _ i u ih => exact (Below.heap_setCell _ ⟨p, i, none⟩ u g hn.out).trans ih
theorem fF {g p : Nat} {o : Obj} {w w' : World} [f : Fs p w w'] (h : w.heap[g]? = some o) (hn : Aside0 (g ≠ p)) : w'.heap[g]? = some o := (fgF rfl ⟨h⟩ hn).out
theorem nl {g g' : Nat} {o : Obj} {w w' : World} [Up w w'] (h : Aside0 (w.heap[g]? = some o)) (hg : g' = w'.heap.size) : Aside0 (g ≠ g') := ⟨by rw [hg]; exact Nat.ne_of_lt (blk_lt (uB h.out))⟩
theorem nr {g g' : Nat} {o : Obj} {w w' : World} [Up w w'] (h : Aside0 (w.heap[g]? = some o)) (hg : g' = w'.heap.size) : Aside0 (g' ≠ g) := ⟨by rw [hg]; exact Nat.ne_of_gt (blk_lt (uB h.out))⟩
class Us (g : Nat) (t : TypeId) (w : World) (cs : Array Value) (w' : World) (cs' : outParam (Array Value)) : Prop where out : w.heap[g]? = some (.cells cs t (0, 0)) → w'.heap[g]? = some (.cells cs' t (0, 0))
instance (priority := low) us0 (g : Nat) (t : TypeId) (w : World) (cs : Array Value) : Us g t w cs w cs := ⟨id⟩
instance us1 {g : Nat} {t : TypeId} {w w' : World} {cs cs' : Array Value} [h : Us g t w cs w' cs'] (o : Obj) : Us g t w cs (w'.alloc o) cs' := ⟨fun a => blk_alloc (h.out a) o⟩
instance us2 {g : Nat} {t : TypeId} {w w' : World} {cs cs' : Array Value} [h : Us g t w cs w' cs'] (n : Nat) : Us g t w cs (w'.drewN n) cs' := ⟨fun a => blk_drewN (h.out a) n⟩
instance us3 {g : Nat} {t : TypeId} {w w' : World} {cs cs' : Array Value} [h : Us g t w cs w' cs'] : Us g t w cs w'.drew cs' := ⟨fun a => blk_drew (h.out a)⟩
theorem fV_ {α : Type} {d : Kd α} {e : TypeId} {g : Nat} {w w' : World} [f : Fs g w w'] {b : Nat} {ok : Nat → Prop} {v : Value} {xs : List α} (h : Kd.V d e w b ok v xs) (hn : ∀ k, ok k → k ≠ g) : Kd.V d e w' b ok v xs := by
 induction f with
 | refl => exact h
 | alloc _ o ih => exact Kd.V_alloc ih o
 | drewN _ n ih => exact Kd.V_drewN ih n
 | drew _ ih => exact Kd.V_drew ih
 | set _ i u ih => exact Kd.V_far ih hn u
theorem fgNV {α : Type} {d : Kd α} {e : TypeId} {g : Nat} {w w' w2 : World} (hw : w2 = w') [f : Fs g w w'] {b : Nat} {ok ok' : Nat → Prop} {v : Value} {xs : List α} (h : Aside0 (Kd.V d e w b ok v xs)) (hn : ∀ k, ok k → ok k ∧ k ≠ g) (ho : ∀ k, ok k ∧ k ≠ g → ok' k) : Aside0 (Kd.V d e w2 b ok' v xs) := ⟨hw ▸ Kd.V_mono (fV_ (Kd.V_mono h.out hn) (fun _ h => h.2)) ho⟩
instance us_1_0 {g : Nat} {t : TypeId} {w w' : World} {cs : Array Value} {a0 u : Value} [h : Us g t w cs w' #[a0]] : Us g t w cs (w'.setCell ⟨g, 0, none⟩ u) #[u] := ⟨fun a => blk_put (h.out a) 0 u rfl⟩
instance us_2_0 {g : Nat} {t : TypeId} {w w' : World} {cs : Array Value} {a0 a1 u : Value} [h : Us g t w cs w' #[a0, a1]] : Us g t w cs (w'.setCell ⟨g, 0, none⟩ u) #[u, a1] := ⟨fun a => blk_put (h.out a) 0 u rfl⟩
instance us_2_1 {g : Nat} {t : TypeId} {w w' : World} {cs : Array Value} {a0 a1 u : Value} [h : Us g t w cs w' #[a0, a1]] : Us g t w cs (w'.setCell ⟨g, 1, none⟩ u) #[a0, u] := ⟨fun a => blk_put (h.out a) 1 u rfl⟩
instance us_3_0 {g : Nat} {t : TypeId} {w w' : World} {cs : Array Value} {a0 a1 a2 u : Value} [h : Us g t w cs w' #[a0, a1, a2]] : Us g t w cs (w'.setCell ⟨g, 0, none⟩ u) #[u, a1, a2] := ⟨fun a => blk_put (h.out a) 0 u rfl⟩
instance us_3_1 {g : Nat} {t : TypeId} {w w' : World} {cs : Array Value} {a0 a1 a2 u : Value} [h : Us g t w cs w' #[a0, a1, a2]] : Us g t w cs (w'.setCell ⟨g, 1, none⟩ u) #[a0, u, a2] := ⟨fun a => blk_put (h.out a) 1 u rfl⟩
instance us_3_2 {g : Nat} {t : TypeId} {w w' : World} {cs : Array Value} {a0 a1 a2 u : Value} [h : Us g t w cs w' #[a0, a1, a2]] : Us g t w cs (w'.setCell ⟨g, 2, none⟩ u) #[a0, a1, u] := ⟨fun a => blk_put (h.out a) 2 u rfl⟩
instance us_4_0 {g : Nat} {t : TypeId} {w w' : World} {cs : Array Value} {a0 a1 a2 a3 u : Value} [h : Us g t w cs w' #[a0, a1, a2, a3]] : Us g t w cs (w'.setCell ⟨g, 0, none⟩ u) #[u, a1, a2, a3] := ⟨fun a => blk_put (h.out a) 0 u rfl⟩
instance us_4_1 {g : Nat} {t : TypeId} {w w' : World} {cs : Array Value} {a0 a1 a2 a3 u : Value} [h : Us g t w cs w' #[a0, a1, a2, a3]] : Us g t w cs (w'.setCell ⟨g, 1, none⟩ u) #[a0, u, a2, a3] := ⟨fun a => blk_put (h.out a) 1 u rfl⟩
instance us_4_2 {g : Nat} {t : TypeId} {w w' : World} {cs : Array Value} {a0 a1 a2 a3 u : Value} [h : Us g t w cs w' #[a0, a1, a2, a3]] : Us g t w cs (w'.setCell ⟨g, 2, none⟩ u) #[a0, a1, u, a3] := ⟨fun a => blk_put (h.out a) 2 u rfl⟩
instance us_4_3 {g : Nat} {t : TypeId} {w w' : World} {cs : Array Value} {a0 a1 a2 a3 u : Value} [h : Us g t w cs w' #[a0, a1, a2, a3]] : Us g t w cs (w'.setCell ⟨g, 3, none⟩ u) #[a0, a1, a2, u] := ⟨fun a => blk_put (h.out a) 3 u rfl⟩
instance us_5_0 {g : Nat} {t : TypeId} {w w' : World} {cs : Array Value} {a0 a1 a2 a3 a4 u : Value} [h : Us g t w cs w' #[a0, a1, a2, a3, a4]] : Us g t w cs (w'.setCell ⟨g, 0, none⟩ u) #[u, a1, a2, a3, a4] := ⟨fun a => blk_put (h.out a) 0 u rfl⟩
instance us_5_1 {g : Nat} {t : TypeId} {w w' : World} {cs : Array Value} {a0 a1 a2 a3 a4 u : Value} [h : Us g t w cs w' #[a0, a1, a2, a3, a4]] : Us g t w cs (w'.setCell ⟨g, 1, none⟩ u) #[a0, u, a2, a3, a4] := ⟨fun a => blk_put (h.out a) 1 u rfl⟩
instance us_5_2 {g : Nat} {t : TypeId} {w w' : World} {cs : Array Value} {a0 a1 a2 a3 a4 u : Value} [h : Us g t w cs w' #[a0, a1, a2, a3, a4]] : Us g t w cs (w'.setCell ⟨g, 2, none⟩ u) #[a0, a1, u, a3, a4] := ⟨fun a => blk_put (h.out a) 2 u rfl⟩
instance us_5_3 {g : Nat} {t : TypeId} {w w' : World} {cs : Array Value} {a0 a1 a2 a3 a4 u : Value} [h : Us g t w cs w' #[a0, a1, a2, a3, a4]] : Us g t w cs (w'.setCell ⟨g, 3, none⟩ u) #[a0, a1, a2, u, a4] := ⟨fun a => blk_put (h.out a) 3 u rfl⟩
instance us_5_4 {g : Nat} {t : TypeId} {w w' : World} {cs : Array Value} {a0 a1 a2 a3 a4 u : Value} [h : Us g t w cs w' #[a0, a1, a2, a3, a4]] : Us g t w cs (w'.setCell ⟨g, 4, none⟩ u) #[a0, a1, a2, a3, u] := ⟨fun a => blk_put (h.out a) 4 u rfl⟩
theorem fB {g : Nat} {t : TypeId} {w w' : World} {cs cs' : Array Value} (h : w.heap[g]? = some (.cells cs t (0, 0))) [u : Us g t w cs w' cs'] : w'.heap[g]? = some (.cells cs' t (0, 0)) := u.out h
theorem fcB {g : Nat} {t : TypeId} {w w' w2 : World} {cs cs' : Array Value} (h : Aside0 (w.heap[g]? = some (.cells cs t (0, 0)))) (hb : Below w'.heap.size w' w2) [u : Us g t w cs w' cs'] : Aside0 (w2.heap[g]? = some (.cells cs' t (0, 0))) := ⟨blk_below (u.out h.out) hb⟩
theorem fgB {g : Nat} {t : TypeId} {w w' w2 : World} {cs cs' : Array Value} (hw : w2 = w') (h : Aside0 (w.heap[g]? = some (.cells cs t (0, 0)))) [u : Us g t w cs w' cs'] : Aside0 (w2.heap[g]? = some (.cells cs' t (0, 0))) := ⟨hw ▸ u.out h.out⟩
theorem fgW {v w1 w2 : World} (hw : w2 = w1) (h : Below v.heap.size v w1) : Aside0 (Below v.heap.size v w2) := ⟨hw ▸ h⟩
theorem nn {a b : Addr} {g : Nat} (h : a.block ≠ g) (e : b.block = a.block := by first | rfl | exact add_block _ _ | (show (Addr.add _ _).block = _; exact add_block _ _) | (rw [add_block, add_block])) : b.block ≠ g := e ▸ h
theorem od {p : Prop} [Decidable p] (h : decide p = true := by first | (with_reducible assumption) | assumption) : p := of_decide_eq_true h
theorem kc {w w' : World} (H : Aside0 (Below w.heap.size w w')) {a : Addr} {v : Value} (h : w.cell? a = some v) : w'.cell? a = some v := (H.out.cell (World.block_lt_of_cell? w _ h)).trans h
theorem tk {P : Program} {ops : Array Oper} {Q : Exit → Act → World → Prop} {md : Region.Mode} {S : World → Prop} {ds : List Nat} (i : Nat) (N : Option Tmp) {oi : Oper} {v : Value} {fuel : Nat} {l : Array Bool} {a a' : Act} {w : World}
 (hi : ops[i]? = some oi) (hN : oi.dst = N) (hc : takeB md ops ds l (l.setIfInBounds i true) i = true) (hQ : ∀ c a w, Q (.panic c) (a.put oi.dst v) w → Q (.panic c) a w) (hy : YieldsIf P ops S oi v a) (hS : S w) (ha : a.put N v = a')
 (h : wpAnyLast P md ops Q S ds fuel (l.setIfInBounds i true) a' w) : wpAnyLast P md ops Q S ds (fuel + 1) l a w :=
 take_ _ hi hN hc hQ hy hS ha h
theorem pu {P : Program} {ops : Array Oper} {Q : Exit → Act → World → Prop} {md : Region.Mode} {S : World → Prop} {ds : List Nat} (i : Nat) (N : Option Tmp) {oi : Oper} {v : Value} {fuel : Nat} {l : Array Bool} {a a' : Act} {w : World}
 (hi : ops[i]? = some oi) (hN : oi.dst = N) (hc : anyB md ops l (l.setIfInBounds i true) i = true) (hQ : ∀ c a w, Q (.panic c) (a.put oi.dst v) w → Q (.panic c) a w) (hy : Yields P ops oi v a) (ha : a.put N v = a')
 (h : wpAnyLast P md ops Q S ds fuel (l.setIfInBounds i true) a' w) : wpAnyLast P md ops Q S ds (fuel + 1) l a w :=
 pure_ _ hi hN hc hQ hy ha h
set_option linter.unusedVariables false
theorem gL {P : Program} {ops : Array Oper} {Q : Exit → Act → World → Prop} {rest : List Oper} {oi : Oper} {a : Act} {w : World} (N : Option Tmp) (hd : oi.dst = N) {f : FuncId} {fn : Func} {as_ : Array Operand} {ts : Array TypeId} (hf : P.funcs[f]? = some fn) (args : Array Value)
 (h : Calls P f args w fun e w' => ∃ v, e = .returned v ∧ wpList P ops Q rest (a.put N v) w') (hg : oi.guard = none := by rfl) (hop : oi.op = .call { callee := .value (.func f), args := as_, argTypes := ts } := by rfl)
 (hargs : as_.map a.eval = args := by (try simp only [List.map_toArray, List.map_cons, List.map_nil]); first | done | rfl | (simp only [List.length_drop, List.length_take]; rfl)) (hname : (fn.name == "runtime.NumGoroutine") = false := by kernel_rfl) (hb : fn.body.isSome = true := by rfl) : wpList P ops Q (oi :: rest) a w :=
 goesL_ N hd hg hf hname hb args hop hargs h
theorem ge_ {b g : Nat} (h : Aside0 (b ≤ g) := by assumption) : b ≤ g := h.out
theorem bl {b : Nat} {w w' : World} (h : Below b w w' := by repeat (first | (with_reducible first | exact HB.out | apply below_alloc | apply pw_below_drewN | apply below_drew1 | refine below_set ?_ ge_) | exact HB.out)) : Below b w w' := h
theorem gw {g : Nat} {v w1 : World} (hg : g = w1.heap.size) (h : Below v.heap.size v w1) : Aside0 (v.heap.size ≤ g) := ⟨by rw [hg]; exact below_size h⟩
theorem uC {α : Type} {d : Kd α} {w w' : World} [u : Up w w'] {A : Option Addr} {n : Nat} {xs : List α} (h : Kd.C d w A n xs) : Kd.C d w' A n xs := by
 induction u with
 | refl => exact h
 | alloc _ o ih => exact Kd.C_alloc ih o
 | drewN _ n ih => exact Kd.C_drewN ih n
 | drew _ ih => exact Kd.C_drew ih
theorem bx {P : Program} {ops : Array Oper} {o : Oper} {rest : List Oper} {a : Act} {Q : Exit → Act → World → Prop} {W : World} {N : Tmp} (cs : Array Value) (t : TypeId)
 (h : ∀ g, g = W.heap.size → ∀ w1, w1.heap[g]? = some (.cells cs t (0, 0)) → Below W.heap.size W w1 → wpList P ops Q rest (a.put o.dst (.pointer (some ⟨g, 0, none⟩))) w1)
 (hgd : o.guard = none := by rfl) (hd : o.dst = some N := by rfl) (hrun : (execOp a.eval o).run P W = .ok (.value (.pointer (some ⟨W.heap.size, 0, none⟩))) (W.alloc (.cells cs t (0, 0))) := by first | (go_simp; done) | (go_simp; rfl)) : wpList P ops Q (o :: rest) a W :=
 box_event hgd hd hrun h
theorem p1 {P : Program} {ops : Array Oper} {Q : Exit → Act → World → Prop} {md : Region.Mode} {S : World → Prop} {ds : List Nat} (i : Nat) (N : Option Tmp) {T : Bool × List (List Nat × List Nat)} {oi : Oper} {v : Value} {fuel : Nat} {l : Array Bool} {a a' : Act} {w : World}
 (h : wpAnyLast P md ops Q S ds fuel (l.setIfInBounds i true) a' w)
 (hi : ops[i]? = some oi := by rfl) (hN : oi.dst = N := by rfl) (hT : Aside0 (rtab md ops = T) := by assumption) (hc : anyT T l.toList (l.setIfInBounds i true).toList i = true := by kernel_rfl) (hQ : ∀ c a w, Q (.panic c) (a.put oi.dst v) w → Q (.panic c) a w := by exact fun _ _ _ h => h)
 (hy : Yields P ops oi v a := by exact Or.inl ⟨by rfl, by intro w'; go_simp; with_reducible rfl⟩) (ha : a.put N v = a' := by simp only [Act.put, List.setIfInBounds_toArray, List.set_cons_zero, List.set_cons_succ, i64_w, i32_w]; rfl) : wpAnyLast P md ops Q S ds (fuel + 1) l a w :=
 pu i N hi hN (any_of hT.out hc) hQ hy ha h
theorem p2 {P : Program} {ops : Array Oper} {Q : Exit → Act → World → Prop} {md : Region.Mode} {S : World → Prop} {ds : List Nat} (i : Nat) (N : Option Tmp) {T : Bool × List (List Nat × List Nat)} {oi : Oper} {fuel : Nat} {l : Array Bool} {a a' : Act} {w : World}
 (h : wpAnyLast P md ops Q S ds fuel (l.setIfInBounds i true) a' w)
 (hi : ops[i]? = some oi := by rfl) (hN : oi.dst = N := by rfl) (hT : Aside0 (rtab md ops = T) := by assumption) (hc : anyT T l.toList (l.setIfInBounds i true).toList i = true := by kernel_rfl) (hQ : ∀ c a w, Q (.panic c) (a.put oi.dst undef) w → Q (.panic c) a w := by exact fun _ _ _ h => h)
 (hy : Yields P ops oi undef a := by exact Or.inr ⟨by rfl, rfl⟩) (ha : a.put N undef = a' := by simp only [Act.put, List.setIfInBounds_toArray, List.set_cons_zero, List.set_cons_succ, i64_w, i32_w]; rfl) : wpAnyLast P md ops Q S ds (fuel + 1) l a w :=
 pu i N hi hN (any_of hT.out hc) hQ hy ha h
theorem t1 {P : Program} {ops : Array Oper} {Q : Exit → Act → World → Prop} {md : Region.Mode} {S : World → Prop} {ds : List Nat} (i : Nat) (N : Option Tmp) {T : Bool × List (List Nat × List Nat)} {B : List Nat} {oi : Oper} {v : Value} {fuel : Nat} {l : Array Bool} {a a' : Act} {w : World}
 (hi : ops[i]? = some oi) (hN : oi.dst = N) (hS : S w) (hy : YieldsIf P ops S oi v a) (h : wpAnyLast P md ops Q S ds fuel (l.setIfInBounds i true) a' w)
 (hT : Aside0 (rtab md ops = T) := by assumption) (hB : Aside0 (waitsOk T.2 B = true) := by assumption) (hc : takeW T B ds l.toList (l.setIfInBounds i true).toList i = true := by kernel_rfl)
 (hQ : ∀ c a w, Q (.panic c) (a.put oi.dst v) w → Q (.panic c) a w := by exact fun _ _ _ h => h) (ha : a.put N v = a' := by simp only [Act.put, List.setIfInBounds_toArray, List.set_cons_zero, List.set_cons_succ, i64_w, i32_w]; rfl) : wpAnyLast P md ops Q S ds (fuel + 1) l a w :=
 tk i N hi hN (take_ofW hT.out hB.out hc) hQ hy hS ha h
theorem o1 {P : Program} {ops : Array Oper} {Q : Exit → Act → World → Prop} {md : Region.Mode} {S : World → Prop} {ds : List Nat} (i : Nat) (N : Option Tmp) {T : Bool × List (List Nat × List Nat)} {oi : Oper} {fuel : Nat} {l : Array Bool} {a : Act} {w : World} (hi : ops[i]? = some oi) (hN : oi.dst = N)
 (h : ∀ K : Act → World → Prop, Shut (∀ a' w', S w' → (S w' → wpAnyLast P md ops Q S ds fuel (l.setIfInBounds i true) a' w') → K a' w') → if Region.wanted oi (yielded ops a.tmps) = true then Oper.wp P oi a w K Q else K (a.put N undef) w)
 (hT : Aside0 (rtab md ops = T) := by assumption) (hc : (readyT T.2 l.toList == [i] && l.toList.set i true == (l.setIfInBounds i true).toList) = true := by kernel_rfl) (hd : i ∉ ds := by decide) : wpAnyLast P md ops Q S ds (fuel + 1) l a w :=
 one_ _ hi hN (one_of hT.out hc) hd h
theorem l1_ {P : Program} {ops : Array Oper} {Q : Exit → Act → World → Prop} {md : Region.Mode} {S : World → Prop} {ds : List Nat} (i : Nat) (N : Option Tmp) {T : Bool × List (List Nat × List Nat)} {oi : Oper} {fuel : Nat} {l : Array Bool} {a : Act} {w : World} (hi : ops[i]? = some oi) (hN : oi.dst = N)
 (h : ∀ K : Act → World → Prop, Shut (∀ a' w', wpAnyLast P md ops Q S ds fuel (l.setIfInBounds i true) a' w' → K a' w') → if Region.wanted oi (yielded ops a.tmps) = true then Oper.wp P oi a w K Q else K (a.put N undef) w)
 (hT : Aside0 (rtab md ops = T) := by assumption) (hc : (readyT T.2 l.toList == [i] && l.toList.set i true == (l.setIfInBounds i true).toList) = true := by kernel_rfl) (hd : i ∈ ds := by decide) : wpAnyLast P md ops Q S ds (fuel + 1) l a w :=
 last_ _ hi hN (one_of hT.out hc) hd h
theorem gS {P : Program} {ops : Array Oper} {Q : Exit → Act → World → Prop} {oi : Oper} {N : Option Tmp} {a : Act} {w : World} {K : Act → World → Prop} {f : FuncId} {fn : Func} {as_ : Array Operand} {ts : Array TypeId} (hf : P.funcs[f]? = some fn) (args : Array Value)
 (h : Calls P f args w fun e w' => ∃ v, e = .returned v ∧ K (a.put N v) w') (hw : Region.wanted oi (yielded ops a.tmps) = true := by rfl) (hN : oi.dst = N := by rfl) (hop : oi.op = .call { callee := .value (.func f), args := as_, argTypes := ts } := by rfl)
 (hargs : as_.map a.eval = args := by (try simp only [List.map_toArray, List.map_cons, List.map_nil]); first | done | rfl | (simp only [List.length_drop, List.length_take]; rfl)) (hname : (fn.name == "runtime.NumGoroutine") = false := by kernel_rfl) (hb : fn.body.isSome = true := by rfl) : if Region.wanted oi (yielded ops a.tmps) = true then Oper.wp P oi a w K Q else K (a.put N undef) w :=
 goes_ hf hname hb args hw hN hop hargs h
theorem ld {w : World} (h : LD w := by first | exact HL0.out | exact LD.below HL0.out (uW HB.out) | exact LD.below HL0.out bl) : LD w := h
theorem gdd {c : Prop} [Decidable c] {α : Type} {a : Option α} {r : α} (h : (if c then a else none) = some r) : decide c = true ∧ a = some r := ⟨decide_eq_true (gd h).1, (gd h).2⟩
theorem ys {α β : Type} {x : α} {f : α → Option β} {r : β} (h : (some x).bind f = some r) : ∃ y, Aside0 (y = x) ∧ f y = some r := ⟨x, ⟨rfl⟩, h⟩
theorem re_ {p : Prop} (h : p := by first | rfl | (simp [errW_none, errW_some] <;> rfl) | (simp [*, errW_none, errW_some] <;> rfl)) : p := h
theorem rs_ {p : Prop} (h : p := by first | rfl | (simp; done) | (simp [*]; done)) : p := h
theorem dr_ {p : Prop} (h : p := by repeat (first | exact Drawn0.refl _ | apply Drawn0.step)) : p := h
theorem nl_ {p : Prop} (h : p := by first | exact Kd.R_nil _ _ _ _ _ | exact Kd.N_nil _ _ _ _ _ | exact Kd.V_nil _ _ _ _ _ | exact Kd.Q_nil _ _ _ _ _ | exact Kd.S_nil _ _ _ _ _) : p := h
theorem bs {α β : Type} {x : Option α} {f : α → Option β} {r : β} (h : x.bind f = some r) : ∃ t, Aside0 (x = some t) ∧ f t = some r := by
 obtain ⟨t, h1, h2⟩ := Option.bind_eq_some_iff.mp h
 exact ⟨t, ⟨h1⟩, h2⟩
theorem z1 {w : World} {g : Nat} {t : TypeId} {v0 : Value} (h : Aside0 (w.heap[g]? = some (.cells #[v0] t (0, 0)))) : w.cell? ⟨g, 0, none⟩ = some v0 ∧ w.frozen? ⟨g, 0, none⟩ = false :=
 ⟨(blk_cell h.out 0).trans rfl, blk_frozen h.out 0⟩
theorem z2 {w : World} {g : Nat} {t : TypeId} {v0 v1 : Value} (h : Aside0 (w.heap[g]? = some (.cells #[v0, v1] t (0, 0)))) : w.cell? ⟨g, 0, none⟩ = some v0 ∧ w.cell? ⟨g, 1, none⟩ = some v1 ∧ w.frozen? ⟨g, 0, none⟩ = false ∧ w.frozen? ⟨g, 1, none⟩ = false :=
 ⟨(blk_cell h.out 0).trans rfl, (blk_cell h.out 1).trans rfl, blk_frozen h.out 0, blk_frozen h.out 1⟩
theorem z3 {w : World} {g : Nat} {t : TypeId} {v0 v1 v2 : Value} (h : Aside0 (w.heap[g]? = some (.cells #[v0, v1, v2] t (0, 0)))) : w.cell? ⟨g, 0, none⟩ = some v0 ∧ w.cell? ⟨g, 1, none⟩ = some v1 ∧ w.cell? ⟨g, 2, none⟩ = some v2 ∧ w.frozen? ⟨g, 0, none⟩ = false ∧ w.frozen? ⟨g, 1, none⟩ = false ∧ w.frozen? ⟨g, 2, none⟩ = false :=
 ⟨(blk_cell h.out 0).trans rfl, (blk_cell h.out 1).trans rfl, (blk_cell h.out 2).trans rfl, blk_frozen h.out 0, blk_frozen h.out 1, blk_frozen h.out 2⟩
theorem z4 {w : World} {g : Nat} {t : TypeId} {v0 v1 v2 v3 : Value} (h : Aside0 (w.heap[g]? = some (.cells #[v0, v1, v2, v3] t (0, 0)))) : w.cell? ⟨g, 0, none⟩ = some v0 ∧ w.cell? ⟨g, 1, none⟩ = some v1 ∧ w.cell? ⟨g, 2, none⟩ = some v2 ∧ w.cell? ⟨g, 3, none⟩ = some v3 ∧ w.frozen? ⟨g, 0, none⟩ = false ∧ w.frozen? ⟨g, 1, none⟩ = false ∧ w.frozen? ⟨g, 2, none⟩ = false ∧ w.frozen? ⟨g, 3, none⟩ = false :=
 ⟨(blk_cell h.out 0).trans rfl, (blk_cell h.out 1).trans rfl, (blk_cell h.out 2).trans rfl, (blk_cell h.out 3).trans rfl, blk_frozen h.out 0, blk_frozen h.out 1, blk_frozen h.out 2, blk_frozen h.out 3⟩
theorem z5 {w : World} {g : Nat} {t : TypeId} {v0 v1 v2 v3 v4 : Value} (h : Aside0 (w.heap[g]? = some (.cells #[v0, v1, v2, v3, v4] t (0, 0)))) : w.cell? ⟨g, 0, none⟩ = some v0 ∧ w.cell? ⟨g, 1, none⟩ = some v1 ∧ w.cell? ⟨g, 2, none⟩ = some v2 ∧ w.cell? ⟨g, 3, none⟩ = some v3 ∧ w.cell? ⟨g, 4, none⟩ = some v4 ∧ w.frozen? ⟨g, 0, none⟩ = false ∧ w.frozen? ⟨g, 1, none⟩ = false ∧ w.frozen? ⟨g, 2, none⟩ = false ∧ w.frozen? ⟨g, 3, none⟩ = false ∧ w.frozen? ⟨g, 4, none⟩ = false :=
 ⟨(blk_cell h.out 0).trans rfl, (blk_cell h.out 1).trans rfl, (blk_cell h.out 2).trans rfl, (blk_cell h.out 3).trans rfl, (blk_cell h.out 4).trans rfl, blk_frozen h.out 0, blk_frozen h.out 1, blk_frozen h.out 2, blk_frozen h.out 3, blk_frozen h.out 4⟩
class LeC {α : Type} (a b : Option α) : Prop where out : LeO a b
instance (priority := low) leC_refl {α : Type} (a : Option α) : LeC a a := ⟨LeO.refl a⟩
instance leC_none {α : Type} (a : Option α) : LeC none a := ⟨LeO.none a⟩
instance leC_ite {α : Type} {c : Prop} [Decidable c] {a a' b b' : Option α} [h : LeC a a'] [k : LeC b b'] : LeC (if c then a else b) (if c then a' else b') := ⟨LeO.ite h.out k.out⟩
instance leC_bind {α β : Type} {a a' : Option α} {f f' : α → Option β} [h : LeC a a'] [k : ∀ x, LeC (f x) (f' x)] : LeC (a.bind f) (a'.bind f') := ⟨LeO.bind h.out fun x => (k x).out⟩
theorem lm {α : Type} {a b : Option α} (h : LeO a b := by repeat' first | (with_reducible refine LeO.ite ?_ ?_) | (with_reducible refine LeO.bind ?_ (fun _ => ?_)) | exact LeC.out) : LeC a b := ⟨h⟩
theorem lo {α : Type} {a b : Option α} (h : LeO a b := by repeat' first | (with_reducible refine LeO.ite ?_ ?_) | (with_reducible refine LeO.bind ?_ (fun _ => ?_)) | exact LeC.out) : LeO a b := h
end Go.Proofs.YteckidchnicjeaaGreatDoor.X
end
