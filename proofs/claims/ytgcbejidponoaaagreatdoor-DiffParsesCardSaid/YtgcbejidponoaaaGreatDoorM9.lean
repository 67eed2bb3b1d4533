/- Printed by a program of this session's own: what functions of the program compute, and that the machine computes it. No condition of its own. -/
import Derived.Test.YtgcbejidponoaaaGreatDoorM3
import Derived.Test.YtgcbejidponoaaaGreatDoorM5
import Derived.Test.YtgcbejidponoaaaGreatDoorM4
import Derived.Test.YtgcbejidponoaaaGreatDoorM6
namespace Go.Proofs.YtgcbejidponoaaaGreatDoor.X
open Go.RowKit Go.Proofs.YtgcbejidponoaaaGreatDoorW.PrintWords Go.Proofs.YtgcbejidponoaaaGreatDoorW.PrintLast Go.Proofs.YtgcbejidponoaaaGreatDoorW.PrintMore
attribute [local go_sem] max2_int min2_int max_two min_two max_three min_three max_four min_four
set_option linter.unusedVariables false
set_option linter.unusedSimpArgs false
set_option maxHeartbeats 8000000
set_option maxRecDepth 100000
attribute [local go_sem high] eqA45
mutual
def diff_Of.j0 : Nat → List (S45) → List (S45) → List (S48) → Bool → Option ((List (S48)) × Int)
 | 0, _, _, _, _ => none
 | k + 1, x0, x1, x4, x13 => if x13 = true then (some (([] : List (S48)), 9)) else (diff_Of.l0 k x0 x1 x4)
def diff_Of.l0 : Nat → List (S45) → List (S45) → List (S48) → Option ((List (S48)) × Int)
 | 0, _, _, _ => none
 | k + 1, x0, x1, x4 => if (x0.length : Int) > 0 then (diff_Of.j2 k x0 x1 x4 true) else (diff_Of.j2 k x0 x1 x4 (decide ((x1.length : Int) > 0)))
def diff_Of.j2 : Nat → List (S45) → List (S45) → List (S48) → Bool → Option ((List (S48)) × Int)
 | 0, _, _, _, _ => none
 | k + 1, x0, x1, x4, x21 => if x21 = true then (if (x1.length : Int) = 0 then (diff_Of.j3 k x0 x1 x4 true) else (if (x0.length : Int) > 0 then (if 0 < (x0.length : Int) then (if 0 < (x1.length : Int) then ((row_Before.f k ((rd_T45 x0 0).f0) ((rd_T45 x0 0).f1) ((rd_T45 x0 0).f2.f0) ((rd_T45 x0 0).f2.f1) ((rd_T45 x1 0).f0) ((rd_T45 x1 0).f1) ((rd_T45 x1 0).f2.f0) ((rd_T45 x1 0).f2.f1)).bind fun t207 => (diff_Of.j3 k x0 x1 x4 t207)) else (none)) else (none)) else (diff_Of.j3 k x0 x1 x4 false))) else (some (x4, 0))
def diff_Of.j3 : Nat → List (S45) → List (S45) → List (S48) → Bool → Option ((List (S48)) × Int)
 | 0, _, _, _, _ => none
 | k + 1, x0, x1, x4, x40 => if x40 = true then (if 0 < (x0.length : Int) then ((diff_gone.f ((rd_T45 x0 0).f0) ((rd_T45 x0 0).f1) ((rd_T45 x0 0).f2.f0) ((rd_T45 x0 0).f2.f1)).bind fun bt209 => (if x4.length < 2932031007402 then (if 1 ≤ (x0.length : Int) then (diff_Of.l0 k (x0.drop 1) x1 (x4 ++ [(⟨(⟨bt209.1, bt209.2.1, (⟨bt209.2.2.1, bt209.2.2.2.1⟩ : S43)⟩ : S45), bt209.2.2.2.2⟩ : S48)])) else (none)) else (none))) else (none)) else (if (x0.length : Int) = 0 then (diff_Of.j4 k x0 x1 x4 true) else (if 0 < (x1.length : Int) then (if 0 < (x0.length : Int) then ((row_Before.f k ((rd_T45 x1 0).f0) ((rd_T45 x1 0).f1) ((rd_T45 x1 0).f2.f0) ((rd_T45 x1 0).f2.f1) ((rd_T45 x0 0).f0) ((rd_T45 x0 0).f1) ((rd_T45 x0 0).f2.f0) ((rd_T45 x0 0).f2.f1)).bind fun t224 => (diff_Of.j4 k x0 x1 x4 t224)) else (none)) else (none)))
def diff_Of.j4 : Nat → List (S45) → List (S45) → List (S48) → Bool → Option ((List (S48)) × Int)
 | 0, _, _, _, _ => none
 | k + 1, x0, x1, x4, x67 => if x67 = true then (if 0 < (x1.length : Int) then (if x4.length < 2932031007402 then (if 1 ≤ (x1.length : Int) then (diff_Of.l0 k x0 (x1.drop 1) (x4 ++ [(⟨(⟨(rd_T45 x1 0).f0, (rd_T45 x1 0).f1, (⟨(rd_T45 x1 0).f2.f0, (rd_T45 x1 0).f2.f1⟩ : S43)⟩ : S45), false⟩ : S48)])) else (none)) else (none)) else (none)) else (if 0 < (x0.length : Int) then (if 0 < (x1.length : Int) then (if (!(((rd_T45 x0 0).f0) == ((rd_T45 x1 0).f0)) || (!((((rd_T45 x0 0).f1).toList) == (((rd_T45 x1 0).f1).toList)) || ((!(((rd_T45 x0 0).f2.f0) == ((rd_T45 x1 0).f2.f0)) || (!(((rd_T45 x0 0).f2.f1) == ((rd_T45 x1 0).f2.f1))))))) = true then (if x4.length < 2932031007402 then (if 1 ≤ (x0.length : Int) then (if 1 ≤ (x1.length : Int) then (diff_Of.l0 k (x0.drop 1) (x1.drop 1) (x4 ++ [(⟨(⟨(rd_T45 x1 0).f0, (rd_T45 x1 0).f1, (⟨(rd_T45 x1 0).f2.f0, (rd_T45 x1 0).f2.f1⟩ : S43)⟩ : S45), false⟩ : S48)])) else (none)) else (none)) else (none)) else (if 1 ≤ (x0.length : Int) then (if 1 ≤ (x1.length : Int) then (diff_Of.l0 k (x0.drop 1) (x1.drop 1) x4) else (none)) else (none))) else (none)) else (none))
end
def diff_Of.f (k : Nat) (l0 : List (S45)) (l1 : List (S45)) : Option ((List (S48)) × Int) := (row_Right.f k l0).bind fun t203 => (if t203 = true then ((row_Right.f k l1).bind fun t204 => (diff_Of.j0 k l0 l1 ([] : List (S48)) (!t204))) else (diff_Of.j0 k l0 l1 ([] : List (S48)) true))
theorem diff_Of.mono_l : ∀ k, (∀ y0 y1 y2 y3, LeC (diff_Of.j0 k y0 y1 y2 y3) (diff_Of.j0 (k + 1) y0 y1 y2 y3)) ∧ (∀ y0 y1 y2, LeC (diff_Of.l0 k y0 y1 y2) (diff_Of.l0 (k + 1) y0 y1 y2)) ∧ (∀ y0 y1 y2 y3, LeC (diff_Of.j2 k y0 y1 y2 y3) (diff_Of.j2 (k + 1) y0 y1 y2 y3)) ∧ (∀ y0 y1 y2 y3, LeC (diff_Of.j3 k y0 y1 y2 y3) (diff_Of.j3 (k + 1) y0 y1 y2 y3)) ∧ (∀ y0 y1 y2 y3, LeC (diff_Of.j4 k y0 y1 y2 y3) (diff_Of.j4 (k + 1) y0 y1 y2 y3))
 | 0 => ⟨fun _ _ _ _ => ⟨fun r h => by simp [diff_Of.j0] at h⟩, fun _ _ _ => ⟨fun r h => by simp [diff_Of.l0] at h⟩, fun _ _ _ _ => ⟨fun r h => by simp [diff_Of.j2] at h⟩, fun _ _ _ _ => ⟨fun r h => by simp [diff_Of.j3] at h⟩, fun _ _ _ _ => ⟨fun r h => by simp [diff_Of.j4] at h⟩⟩
 | k + 1 => by obtain ⟨ih0, ih1, ih2, ih3, ih4⟩ := diff_Of.mono_l k; exact ⟨fun _ _ _ _ => by unfold diff_Of.j0; exact lm, fun _ _ _ => by unfold diff_Of.l0; exact lm, fun _ _ _ _ => by unfold diff_Of.j2; exact lm, fun _ _ _ _ => by unfold diff_Of.j3; exact lm, fun _ _ _ _ => by unfold diff_Of.j4; exact lm⟩
theorem diff_Of.mono : ∀ a0 a1 k, LeO (diff_Of.f k a0 a1) (diff_Of.f (k + 1) a0 a1) := by
 intro a0 a1 k
 obtain ⟨ih0, ih1, ih2, ih3, ih4⟩ := diff_Of.mono_l k
 unfold diff_Of.f
 exact lo
instance diff_Of.mI {a0 a1 k} : LeC (diff_Of.f k a0 a1) (diff_Of.f (k + 1) a0 a1) := ⟨diff_Of.mono _ _ _⟩
def diff_Of.T7 : Bool × List (List Nat × List Nat) := (true, [([], []), ([0], [0]), ([1], [1]), ([2], [2]), ([3], [3]), ([4, 3], [3, 4]), ([5, 3], [3, 5]), ([6, 3, 3], [3, 6]), ([7], [7]), ([8, 7], [7, 8]), ([9, 7], [7, 9]), ([7], [7]), ([11, 7], [7, 11]), ([12, 7], [7, 12]), ([10, 13, 7, 7], [7, 10, 13]), ([7, 14, 3], [3, 7, 14]), ([3, 15], [3, 15]), ([16, 14], [16])])
def diff_Of.B7 : List Nat := [0, 1, 3, 7, 15, 31, 63, 127, 255, 511, 1023, 255, 2303, 6399, 16383, 32767, 65535, 131071]
theorem diff_Of.tab7 : rtab .any (opsOf Tryz.f10 7) = diff_Of.T7 := by kernel_rfl
theorem diff_Of.bits7 : waitsOk diff_Of.T7.2 diff_Of.B7 = true := by kernel_rfl
def diff_Of.T10 : Bool × List (List Nat × List Nat) := (true, [([], []), ([0], [0]), ([1], [1]), ([2], [2]), ([3], [3]), ([4, 3], [3, 4]), ([5, 3], [3, 5]), ([3], [3]), ([7, 3], [3, 7]), ([8, 3], [3, 8]), ([6, 9, 3, 3], [3, 6, 9]), ([3, 10], [3, 10]), ([11, 10], [11])])
def diff_Of.B10 : List Nat := [0, 1, 3, 7, 15, 31, 63, 15, 143, 399, 1023, 2047, 4095]
theorem diff_Of.tab10 : rtab .any (opsOf Tryz.f10 10) = diff_Of.T10 := by kernel_rfl
theorem diff_Of.bits10 : waitsOk diff_Of.T10.2 diff_Of.B10 = true := by kernel_rfl
theorem diff_Of.calls (k : Nat) (P0_ : Nat → Prop) (A0 : Option Addr) (c0 : Nat) (l0 : List (S45)) (P1_ : Nat → Prop) (A1 : Option Addr) (c1 : Nat) (l1 : List (S45)) (r1 : List (S48)) (r2 : Int) (w : World) (hs0 : Kd.V k45 45 w w.heap.size (fun k_ => P0_ k_) (.slice A0 l0.length c0) l0) (hs1 : Kd.V k45 45 w w.heap.size (fun k_ => P1_ k_) (.slice A1 l1.length c1) l1) (hL : LD w) (h : diff_Of.f k l0 l1 = some (r1, r2)) :
 Calls Tryz.prog 10 #[.slice A0 l0.length c0, .slice A1 l1.length c1] w fun e w' => ∃ v0_ : Value, e = .returned (.tuple #[v0_, .int .i64 r2]) ∧ Kd.R k48 48 w' w.heap.size (fun k_ => (w.heap.size ≤ k_)) v0_ r1 ∧ Below w.heap.size w w' := by
 have HL0 := Aside0.mk hL
 clear hL
 have hu45 := Tryz.underlying45
 have hu48 := Tryz.underlying48
 have HO0 := Aside0.mk (show Kd.V k45 45 w w.heap.size (fun k_ => ((P0_ k_ ∨ P1_ k_) ∨ w.heap.size ≤ k_)) (.slice A0 l0.length c0) l0 from Kd.V_mono hs0 (fun k_ hk => .inl (.inl hk)))
 have HO1 := Aside0.mk (show Kd.V k45 45 w w.heap.size (fun k_ => ((P0_ k_ ∨ P1_ k_) ∨ w.heap.size ≤ k_)) (.slice A1 l1.length c1) l1 from Kd.V_mono hs1 (fun k_ hk => .inl (.inr hk)))
 have HB := Aside0.mk (Below.refl w.heap.size w)
 have H : ((row_Right.f k l0).bind fun t203 => (if t203 = true then ((row_Right.f k l1).bind fun t204 => (diff_Of.j0 k l0 l1 ([] : List (S48)) (!t204))) else (diff_Of.j0 k l0 l1 ([] : List (S48)) true))) = some (r1, r2) := h
 clear h
 have HC3 := Aside0.mk H
 clear H
 go_enter Tryz.func10, Tryz.ntmps10
 go_upto_region 1 with (fail)
 go_cut [13] (fun v13 wc => ∃ (kq : Nat) (x13_2 : Bool), v13 = .bool x13_2 ∧ Aside0 (diff_Of.j0 kq l0 l1 ([] : List (S48)) x13_2 = some (r1, r2)) ∧ Aside0 (kq ≤ k) ∧ Aside0 (Kd.V k45 45 wc w.heap.size (fun k_ => ((P0_ k_ ∨ P1_ k_) ∨ w.heap.size ≤ k_) ∧ some k_ ≠ ((.slice none 0 0) : Value).ownBlock) (.slice A0 l0.length c0) l0) ∧ Aside0 (Kd.V k45 45 wc w.heap.size (fun k_ => ((P0_ k_ ∨ P1_ k_) ∨ w.heap.size ≤ k_) ∧ some k_ ≠ ((.slice none 0 0) : Value).ownBlock) (.slice A1 l1.length c1) l1) ∧ Aside0 (Kd.R k48 48 wc w.heap.size (fun k_ => (w.heap.size ≤ k_)) (.slice none 0 0) ([] : List (S48))) ∧ Aside0 (Below w.heap.size w wc))
 case first =>
  have H := HC3.out
  clear HC3
  obtain ⟨t203, A4, H⟩ := bs H
  try dsimp only at H
  by_cases c5 : t203 = true
  ·
   subst c5
   rw [if_pos rfl] at H
   obtain ⟨t204, A6, H⟩ := bs H
   try dsimp only at H
   have H' := Aside0.mk H
   clear H
   go_wp2_with (first | (refine gL (some 7) rfl Tryz.func24 #[.slice A0 l0.length c0] ?_; (with_reducible refine (row_Right.calls (hL := ld) k _ _ l0 true _ ?side1 ?side2 A4.out).mono ?_); (case side1 => exact uC <| (Kd.V_reads' HO0.out).2.2); (case side2 => exact (Kd.V_reads' HO0.out).2.1); rintro e w7 ⟨rfl, hb⟩; refine ⟨_, rfl, ?_⟩; replace HO0 := cV HO0 hb; replace HO1 := cV HO1 hb; replace HB := cW HB hb; (try clear hb)) | (go_at_call 24; (with_reducible refine (row_Right.calls (hL := ld) k _ _ l1 t204 _ ?side1 ?side2 A6.out).mono ?_); (case side1 => exact uC <| (Kd.V_reads' HO1.out).2.2); (case side2 => exact (Kd.V_reads' HO1.out).2.1); rintro e w8 ⟨rfl, hb⟩; replace HO0 := cV HO0 hb; replace HO1 := cV HO1 hb; replace HB := cW HB hb; (try clear hb)))
   go_meet
   case rel => exact ⟨_, (!t204), rs_, H', ⟨by first | omega | exact Nat.le_refl _⟩, ⟨by exact uV <| Kd.V_mono HO0.out (fun _ hk => ⟨hk, (by simp [Value.ownBlock])⟩)⟩, ⟨by exact uV <| Kd.V_mono HO1.out (fun _ hk => ⟨hk, (by simp [Value.ownBlock])⟩)⟩, ⟨nl_⟩, ⟨uW HB.out⟩⟩
  ·
   replace c5 := Bool.eq_false_iff.mpr c5
   subst c5
   rw [if_neg (show ¬ (false = true) by decide)] at H
   have H' := Aside0.mk H
   clear H
   go_wp2_with (first | (refine gL (some 7) rfl Tryz.func24 #[.slice A0 l0.length c0] ?_; (with_reducible refine (row_Right.calls (hL := ld) k _ _ l0 false _ ?side1 ?side2 A4.out).mono ?_); (case side1 => exact uC <| (Kd.V_reads' HO0.out).2.2); (case side2 => exact (Kd.V_reads' HO0.out).2.1); rintro e w9 ⟨rfl, hb⟩; refine ⟨_, rfl, ?_⟩; replace HO0 := cV HO0 hb; replace HO1 := cV HO1 hb; replace HB := cW HB hb; (try clear hb)))
   go_meet
   case rel => exact ⟨_, (true), rs_, H', ⟨by first | omega | exact Nat.le_refl _⟩, ⟨by exact uV <| Kd.V_mono HO0.out (fun _ hk => ⟨hk, (by simp [Value.ownBlock])⟩)⟩, ⟨by exact uV <| Kd.V_mono HO1.out (fun _ hk => ⟨hk, (by simp [Value.ownBlock])⟩)⟩, ⟨nl_⟩, ⟨uW HB.out⟩⟩
 case rest =>
  clear HC3
  try clear c1
  try clear c2
  try clear p2
  try clear c5
  obtain ⟨kq, x13_2, rfl, HA, HJ2, HO_0, HO_1, HO_4, HB⟩ := hcut
  cases kq with
  | zero => exact absurd HA.out (by simp [diff_Of.j0])
  | succ kj2 =>
   have H := HA.out
   clear HA
   simp only [diff_Of.j0] at H
   by_cases c10 : x13_2 = true
   ·
    subst c10
    rw [if_pos rfl] at H
    simp only [Option.some.injEq, Prod.mk.injEq] at H
    obtain ⟨rfl, rfl⟩ := H
    go_wp2
    go_ret2
    exact ⟨_, re_, nl_, uW HB.out⟩
   ·
    replace c10 := Bool.eq_false_iff.mpr c10
    subst c10
    rw [if_neg (show ¬ (false = true) by decide)] at H
    have H' := Aside0.mk H
    clear H
    go_wp2
    go_loopg [0, 1, 4] kj2 (fun kq v0 v1 v4 w' => ∃ (x0_2 : List (S45)) (x1_2 : List (S45)) (x4_2 : List (S48)), Aside0 (diff_Of.l0 kq x0_2 x1_2 x4_2 = some (r1, r2)) ∧ Aside0 (kq ≤ kj2) ∧ Aside0 (Kd.V k45 45 w' w.heap.size (fun k_ => ((P0_ k_ ∨ P1_ k_) ∨ w.heap.size ≤ k_) ∧ some k_ ≠ (v4 : Value).ownBlock) v0 x0_2) ∧ Aside0 (Kd.V k45 45 w' w.heap.size (fun k_ => ((P0_ k_ ∨ P1_ k_) ∨ w.heap.size ≤ k_) ∧ some k_ ≠ (v4 : Value).ownBlock) v1 x1_2) ∧ Aside0 (Kd.R k48 48 w' w.heap.size (fun k_ => (w.heap.size ≤ k_)) v4 x4_2) ∧ Aside0 (Below w.heap.size w w'))
    case atStart => exact ⟨(l0), (l1), (([] : List (S48))), H', ⟨Nat.le_refl _⟩, ⟨uV HO_0.out⟩, ⟨uV HO_1.out⟩, ⟨uR HO_4.out⟩, ⟨uW HB.out⟩⟩
    case round =>
     clear H'
     try clear c1
     try clear c2
     try clear p2
     try clear c5
     try clear c10
     try clear p2
     obtain ⟨x0_2, x1_2, x4_2, HA, HK2, HO_0, HO_1, HO_4, HB⟩ := hrel
     cases gk with
     | zero => exact absurd HA.out (by simp [diff_Of.l0])
     | succ k2 =>
      have H := HA.out
      clear HA
      simp only [diff_Of.l0] at H
      have HC11 := Aside0.mk H
      clear H
      go_upto_region 3 with (fail)
      go_cut [21] (fun v21 wc => ∃ (kq : Nat) (x21_10 : Bool), v21 = .bool x21_10 ∧ Aside0 (diff_Of.j2 kq x0_2 x1_2 x4_2 x21_10 = some (r1, r2)) ∧ Aside0 (kq ≤ k2) ∧ Aside0 (Kd.V k45 45 wc w.heap.size (fun k_ => ((P0_ k_ ∨ P1_ k_) ∨ w.heap.size ≤ k_) ∧ some k_ ≠ (u4 : Value).ownBlock) u0 x0_2) ∧ Aside0 (Kd.V k45 45 wc w.heap.size (fun k_ => ((P0_ k_ ∨ P1_ k_) ∨ w.heap.size ≤ k_) ∧ some k_ ≠ (u4 : Value).ownBlock) u1 x1_2) ∧ Aside0 (Kd.R k48 48 wc w.heap.size (fun k_ => (w.heap.size ≤ k_)) u4 x4_2) ∧ Aside0 (Below w.heap.size w wc))
      case first =>
       have H := HC11.out
       clear HC11
       by_cases c12 : (x0_2.length : Int) > 0
       ·
        rw [if_pos c12] at H
        have c12b0 : decide (0 < (x0_2.length : Int)) = true := decide_eq_true c12
        have c12b1 : decide (0 < x0_2.length) = true := decide_eq_true (by omega)
        clear c12
        (first | rw [c12b0] | (simp only [i64_w, i32_w]; rw [c12b0]) | skip)
        have H' := Aside0.mk H
        clear H
        obtain ⟨Ao13, co13, eo13⟩ := Kd.V_slice HO_0.out
        subst eo13
        go_wp2
        go_meet
        case rel => exact ⟨_, (true), rs_, H', ⟨by have := HJ2.out; have := HK2.out; first | omega | exact Nat.le_refl _⟩, ⟨uV HO_0.out⟩, ⟨uV HO_1.out⟩, ⟨uR HO_4.out⟩, ⟨uW HB.out⟩⟩
       ·
        rw [if_neg c12] at H
        have c12b0 : decide (0 < (x0_2.length : Int)) = false := decide_eq_false c12
        have c12b1 : decide (0 < x0_2.length) = false := decide_eq_false (by omega)
        clear c12
        (first | rw [c12b0] | (simp only [i64_w, i32_w]; rw [c12b0]) | skip)
        have H' := Aside0.mk H
        clear H
        obtain ⟨Ao14, co14, eo14⟩ := Kd.V_slice HO_0.out
        subst eo14
        obtain ⟨Ao15, co15, eo15⟩ := Kd.V_slice HO_1.out
        subst eo15
        go_wp2
        go_meet
        case rel => exact ⟨_, (decide ((x1_2.length : Int) > 0)), rs_, H', ⟨by have := HJ2.out; have := HK2.out; first | omega | exact Nat.le_refl _⟩, ⟨uV HO_0.out⟩, ⟨uV HO_1.out⟩, ⟨uR HO_4.out⟩, ⟨uW HB.out⟩⟩
      case rest =>
       clear HC11
       try clear c1
       try clear c2
       try clear p2
       try clear c5
       try clear c10
       try clear c12
       try clear c12b0
       try clear c12b1
       try clear p2
       obtain ⟨kq, x21_10, rfl, HA, HJ10, HO_0, HO_1, HO_4, HB⟩ := hcut
       cases kq with
       | zero => exact absurd HA.out (by simp [diff_Of.j2])
       | succ kj10 =>
        have H := HA.out
        clear HA
        simp only [diff_Of.j2] at H
        by_cases c16 : x21_10 = true
        ·
         subst c16
         rw [if_pos rfl] at H
         have HC17 := Aside0.mk H
         clear H
         go_upto_region 7 with (fail)
         go_cut [40] (fun v40 wc => ∃ (kq : Nat) (x40_16 : Bool), v40 = .bool x40_16 ∧ Aside0 (diff_Of.j3 kq x0_2 x1_2 x4_2 x40_16 = some (r1, r2)) ∧ Aside0 (kq ≤ kj10) ∧ Aside0 (Kd.V k45 45 wc w.heap.size (fun k_ => ((P0_ k_ ∨ P1_ k_) ∨ w.heap.size ≤ k_) ∧ some k_ ≠ (u4 : Value).ownBlock) u0 x0_2) ∧ Aside0 (Kd.V k45 45 wc w.heap.size (fun k_ => ((P0_ k_ ∨ P1_ k_) ∨ w.heap.size ≤ k_) ∧ some k_ ≠ (u4 : Value).ownBlock) u1 x1_2) ∧ Aside0 (Kd.R k48 48 wc w.heap.size (fun k_ => (w.heap.size ≤ k_)) u4 x4_2) ∧ Aside0 (Below w.heap.size w wc))
         case first =>
          have H := HC17.out
          clear HC17
          by_cases c18 : (x1_2.length : Int) = 0
          ·
           rw [if_pos c18] at H
           have c18b0 : ((x1_2.length : Int) == 0) = true := beq_iff_eq.mpr c18
           have c18b1 : ((x1_2.length : Int) != 0) = false := bne_eq_false_iff_eq.mpr c18
           clear c18
           (first | rw [c18b0] | (simp only [i64_w, i32_w]; rw [c18b0]) | skip)
           have H' := Aside0.mk H
           clear H
           try go_wp2
           replace HO_0 := Aside0.mk (Kd.V_drew HO_0.out)
           replace HO_1 := Aside0.mk (Kd.V_drew HO_1.out)
           replace HO_4 := Aside0.mk (Kd.R_drew HO_4.out)
           replace HB := Aside0.mk (below_drew1 HB.out)
           obtain ⟨Ao20, co20, eo20⟩ := Kd.V_slice HO_1.out
           (first | subst eo20 | (injection eo20 with f1_ f2_ f3_; have f4_ := f1_.symm; have f5_ := f3_.symm; clear f1_ f2_ f3_; subst f4_; subst f5_))
           refine start_ (n := 18) (S := fun w' => True) (ds := []) _ (by kernel_rfl) rfl rfl trivial (fun hHeld => ?_); refine with_tabW diff_Of.tab7 diff_Of.bits7 (fun HT_ HW_ => ?_)
           generalize wc.drew = w19 at HO_0 HO_1 HO_4 HB hHeld ⊢
           refine p1 0 (some 41) ?_
           refine p1 1 (some 42) ?_
           refine p1 2 (some 43) ?_
           refine p1 3 (some 44) ?_
           refine p2 4 (some 45) ?_
           refine p2 5 (some 46) ?_
           refine p2 6 (some 47) ?_
           refine p2 7 (some 48) ?_
           refine p2 8 (some 49) ?_
           refine p2 9 (some 50) ?_
           refine p2 10 (some 51) ?_
           refine p2 11 (some 52) ?_
           refine p2 12 (some 53) ?_
           refine p2 13 (some 54) ?_
           refine p2 14 (some 55) ?_
           refine p2 15 (some 56) ?_
           refine p1 16 (some 57) ?_
           refine p1 17 (some 40) ?_
           refine done_ (done_of HT_.out (by kernel_rfl)) ?_
           try go_wp2
           go_meet
           case rel => exact ⟨_, (true), rs_, H', ⟨by have := HJ2.out; have := HK2.out; have := HJ10.out; first | omega | exact Nat.le_refl _⟩, ⟨uV HO_0.out⟩, ⟨uV HO_1.out⟩, ⟨uR HO_4.out⟩, ⟨uW HB.out⟩⟩
          ·
           rw [if_neg c18] at H
           have c18b0 : ((x1_2.length : Int) == 0) = false := beq_eq_false_iff_ne.mpr c18
           have c18b1 : ((x1_2.length : Int) != 0) = true := bne_iff_ne.mpr c18
           have c18b2 : ¬ (x1_2 = []) := fun h_ => c18 (by rw [h_]; rfl)
           (first | rw [c18b0] | (simp only [i64_w, i32_w]; rw [c18b0]) | skip)
           by_cases c21 : (x0_2.length : Int) > 0
           ·
            rw [if_pos c21] at H
            have c21b0 : decide (0 < (x0_2.length : Int)) = true := decide_eq_true c21
            have c21b1 : decide (0 < x0_2.length) = true := decide_eq_true (by omega)
            clear c21
            obtain ⟨c22, H⟩ := gd H
            have c22b0 : decide (0 < (x0_2.length : Int)) = true := decide_eq_true c22
            have c22b1 : decide (0 < x0_2.length) = true := decide_eq_true (by omega)
            clear c22
            obtain ⟨c23, H⟩ := gd H
            have c23b0 : decide (0 < (x1_2.length : Int)) = true := decide_eq_true c23
            have c23b1 : decide (0 < x1_2.length) = true := decide_eq_true (by omega)
            clear c23
            obtain ⟨t207, A24, H⟩ := bs H
            try dsimp only at H
            have H' := Aside0.mk H
            clear H
            try go_wp2
            replace HO_0 := Aside0.mk (Kd.V_drew HO_0.out)
            replace HO_1 := Aside0.mk (Kd.V_drew HO_1.out)
            replace HO_4 := Aside0.mk (Kd.R_drew HO_4.out)
            replace HB := Aside0.mk (below_drew1 HB.out)
            obtain ⟨Ao26, co26, eo26⟩ := Kd.V_slice HO_1.out
            (first | subst eo26 | (injection eo26 with f1_ f2_ f3_; have f4_ := f1_.symm; have f5_ := f3_.symm; clear f1_ f2_ f3_; subst f4_; subst f5_))
            obtain ⟨Ao27, co27, eo27⟩ := Kd.V_slice HO_0.out
            (first | subst eo27 | (injection eo27 with f1_ f2_ f3_; have f4_ := f1_.symm; have f5_ := f3_.symm; clear f1_ f2_ f3_; subst f4_; subst f5_))
            have p205 : 0 ≤ (0 : Int) := (by omega)
            have q205 : 0 < (x0_2.length : Int) := od
            obtain ⟨ad205, e205, hx205_0, hx205_1, hx205_2, hx205_3⟩ := at_T45 (Kd.V_reads' HO_0.out).2.2 0 p205 q205
            cases e205
            have qi205 : (0 < x0_2.length) = True := eq_true (by omega)
            (try rw [show ((0 : Int)).toNat = 0 from rfl] at hx205_0)
            (try rw [show 0 * 4 = 0 from rfl] at hx205_0)
            (try rw [Addr.add_zero'] at hx205_0)
            (try rw [show ((0 : Int)).toNat = 0 from rfl] at hx205_1)
            (try rw [show 0 * 4 = 0 from rfl] at hx205_1)
            (try rw [Addr.add_zero'] at hx205_1)
            (try rw [show ((0 : Int)).toNat = 0 from rfl] at hx205_2)
            (try rw [show 0 * 4 = 0 from rfl] at hx205_2)
            (try rw [Addr.add_zero'] at hx205_2)
            (try rw [show ((0 : Int)).toNat = 0 from rfl] at hx205_3)
            (try rw [show 0 * 4 = 0 from rfl] at hx205_3)
            (try rw [Addr.add_zero'] at hx205_3)
            replace p205 := eq_true p205
            replace q205 := eq_true q205
            have p206 : 0 ≤ (0 : Int) := (by omega)
            have q206 : 0 < (x1_2.length : Int) := od
            obtain ⟨ad206, e206, hx206_0, hx206_1, hx206_2, hx206_3⟩ := at_T45 (Kd.V_reads' HO_1.out).2.2 0 p206 q206
            cases e206
            have qi206 : (0 < x1_2.length) = True := eq_true (by omega)
            (try rw [show ((0 : Int)).toNat = 0 from rfl] at hx206_0)
            (try rw [show 0 * 4 = 0 from rfl] at hx206_0)
            (try rw [Addr.add_zero'] at hx206_0)
            (try rw [show ((0 : Int)).toNat = 0 from rfl] at hx206_1)
            (try rw [show 0 * 4 = 0 from rfl] at hx206_1)
            (try rw [Addr.add_zero'] at hx206_1)
            (try rw [show ((0 : Int)).toNat = 0 from rfl] at hx206_2)
            (try rw [show 0 * 4 = 0 from rfl] at hx206_2)
            (try rw [Addr.add_zero'] at hx206_2)
            (try rw [show ((0 : Int)).toNat = 0 from rfl] at hx206_3)
            (try rw [show 0 * 4 = 0 from rfl] at hx206_3)
            (try rw [Addr.add_zero'] at hx206_3)
            replace p206 := eq_true p206
            replace q206 := eq_true q206
            refine start_ (n := 18) (S := fun w' => w'.cell? ad205 = some (.int .i64 ((rd_T45 x0_2 0).f0)) ∧ w'.cell? ⟨ad205.block, ad205.off + 1, none⟩ = some (.string ((rd_T45 x0_2 0).f1)) ∧ w'.cell? ⟨ad205.block, ad205.off + 2, none⟩ = some (.int .i64 ((rd_T45 x0_2 0).f2.f0)) ∧ w'.cell? ⟨ad205.block, ad205.off + 3, none⟩ = some (.bool ((rd_T45 x0_2 0).f2.f1)) ∧ w'.cell? ad206 = some (.int .i64 ((rd_T45 x1_2 0).f0)) ∧ w'.cell? ⟨ad206.block, ad206.off + 1, none⟩ = some (.string ((rd_T45 x1_2 0).f1)) ∧ w'.cell? ⟨ad206.block, ad206.off + 2, none⟩ = some (.int .i64 ((rd_T45 x1_2 0).f2.f0)) ∧ w'.cell? ⟨ad206.block, ad206.off + 3, none⟩ = some (.bool ((rd_T45 x1_2 0).f2.f1))) (ds := []) _ (by kernel_rfl) rfl rfl ⟨hx205_0, hx205_1, hx205_2, hx205_3, hx206_0, hx206_1, hx206_2, hx206_3⟩ (fun hHeld => ?_); refine with_tabW diff_Of.tab7 diff_Of.bits7 (fun HT_ HW_ => ?_)
            generalize wc.drew = w25 at HO_0 HO_1 HO_4 HB hx205_0 hx205_1 hx205_2 hx205_3 hx206_0 hx206_1 hx206_2 hx206_3 hHeld ⊢
            refine p1 0 (some 41) ?_
            refine p1 1 (some 42) ?_
            refine p1 2 (some 43) ?_
            refine p1 3 (some 44) ?_
            refine p1 4 (some 45) ?_
            refine p1 5 (some 46) ?_
            refine p1 6 (some 47) ?_
            refine p1 7 (some 48) ?_
            refine p1 8 (some 49) ?_
            refine p1 9 (some 50) ?_
            refine p1 11 (some 52) ?_
            refine p1 12 (some 53) ?_
            refine t1 10 (some 51) rfl rfl hHeld (Or.inl ⟨by rfl, by rintro w' ⟨s0, s1, s2, s3, s4, s5, s6, s7⟩; go_simp; with_reducible rfl⟩) ?_
            refine t1 13 (some 54) rfl rfl hHeld (Or.inl ⟨by rfl, by rintro w' ⟨s0, s1, s2, s3, s4, s5, s6, s7⟩; go_simp; with_reducible rfl⟩) ?_
            refine o1 14 (some 55) rfl rfl (fun K hK => ?_)
            refine gS Tryz.func25 #[.agg #[.int .i64 ((rd_T45 x0_2 0).f0), .string ((rd_T45 x0_2 0).f1), .int .i64 ((rd_T45 x0_2 0).f2.f0), .bool ((rd_T45 x0_2 0).f2.f1)], .agg #[.int .i64 ((rd_T45 x1_2 0).f0), .string ((rd_T45 x1_2 0).f1), .int .i64 ((rd_T45 x1_2 0).f2.f0), .bool ((rd_T45 x1_2 0).f2.f1)]] ?_
            with_reducible refine (row_Before.calls kj10 ((rd_T45 x0_2 0).f0) ((rd_T45 x0_2 0).f1) ((rd_T45 x0_2 0).f2.f0) ((rd_T45 x0_2 0).f2.f1) ((rd_T45 x1_2 0).f0) ((rd_T45 x1_2 0).f1) ((rd_T45 x1_2 0).f2.f0) ((rd_T45 x1_2 0).f2.f1) t207 _ A24.out).mono ?_
            rintro e w28 ⟨rfl, hb⟩
            have HS0_ := (hb.cell (World.block_lt_of_cell? _ _ (hHeld.1))).trans (hHeld.1)
            have HS1_ := (hb.cell (World.block_lt_of_cell? _ _ (hHeld.2.1))).trans (hHeld.2.1)
            have HS2_ := (hb.cell (World.block_lt_of_cell? _ _ (hHeld.2.2.1))).trans (hHeld.2.2.1)
            have HS3_ := (hb.cell (World.block_lt_of_cell? _ _ (hHeld.2.2.2.1))).trans (hHeld.2.2.2.1)
            have HS4_ := (hb.cell (World.block_lt_of_cell? _ _ (hHeld.2.2.2.2.1))).trans (hHeld.2.2.2.2.1)
            have HS5_ := (hb.cell (World.block_lt_of_cell? _ _ (hHeld.2.2.2.2.2.1))).trans (hHeld.2.2.2.2.2.1)
            have HS6_ := (hb.cell (World.block_lt_of_cell? _ _ (hHeld.2.2.2.2.2.2.1))).trans (hHeld.2.2.2.2.2.2.1)
            have HS7_ := (hb.cell (World.block_lt_of_cell? _ _ (hHeld.2.2.2.2.2.2.2))).trans (hHeld.2.2.2.2.2.2.2)
            refine ⟨_, rfl, ?_⟩
            replace HO_0 := cV HO_0 hb
            replace HO_1 := cV HO_1 hb
            replace HO_4 := cR HO_4 hb
            replace HB := cW HB hb
            (try clear hb)
            refine hK.out _ _ ⟨HS0_, HS1_, HS2_, HS3_, HS4_, HS5_, HS6_, HS7_⟩ (fun hHeld => ?_)
            clear hK K
            refine norm_ (a' := ?_) ?_ ?_
            rotate_left
            ·
             show Act.put _ (some 55) _ = _
             simp only [Act.put, List.setIfInBounds_toArray, List.set_cons_zero, List.set_cons_succ, i64_w, i32_w]
             rfl
            refine p1 15 (some 56) ?_
            refine p1 16 (some 57) ?_
            refine p1 17 (some 40) ?_
            refine done_ (done_of HT_.out (by kernel_rfl)) ?_
            try go_wp2
            go_meet
            case rel => exact ⟨_, (t207), rs_, H', ⟨by have := HJ2.out; have := HK2.out; have := HJ10.out; first | omega | exact Nat.le_refl _⟩, ⟨uV HO_0.out⟩, ⟨uV HO_1.out⟩, ⟨uR HO_4.out⟩, ⟨uW HB.out⟩⟩
           ·
            rw [if_neg c21] at H
            have c21b0 : decide (0 < (x0_2.length : Int)) = false := decide_eq_false c21
            have c21b1 : decide (0 < x0_2.length) = false := decide_eq_false (by omega)
            clear c21
            have H' := Aside0.mk H
            clear H
            try go_wp2
            replace HO_0 := Aside0.mk (Kd.V_drew HO_0.out)
            replace HO_1 := Aside0.mk (Kd.V_drew HO_1.out)
            replace HO_4 := Aside0.mk (Kd.R_drew HO_4.out)
            replace HB := Aside0.mk (below_drew1 HB.out)
            obtain ⟨Ao30, co30, eo30⟩ := Kd.V_slice HO_1.out
            (first | subst eo30 | (injection eo30 with f1_ f2_ f3_; have f4_ := f1_.symm; have f5_ := f3_.symm; clear f1_ f2_ f3_; subst f4_; subst f5_))
            obtain ⟨Ao31, co31, eo31⟩ := Kd.V_slice HO_0.out
            (first | subst eo31 | (injection eo31 with f1_ f2_ f3_; have f4_ := f1_.symm; have f5_ := f3_.symm; clear f1_ f2_ f3_; subst f4_; subst f5_))
            refine start_ (n := 18) (S := fun w' => True) (ds := []) _ (by kernel_rfl) rfl rfl trivial (fun hHeld => ?_); refine with_tabW diff_Of.tab7 diff_Of.bits7 (fun HT_ HW_ => ?_)
            generalize wc.drew = w29 at HO_0 HO_1 HO_4 HB hHeld ⊢
            refine p1 0 (some 41) ?_
            refine p1 1 (some 42) ?_
            refine p1 2 (some 43) ?_
            refine p1 3 (some 44) ?_
            refine p1 4 (some 45) ?_
            refine p1 5 (some 46) ?_
            refine p1 6 (some 47) ?_
            refine p1 7 (some 48) ?_
            refine p2 8 (some 49) ?_
            refine p2 9 (some 50) ?_
            refine p2 10 (some 51) ?_
            refine p2 11 (some 52) ?_
            refine p2 12 (some 53) ?_
            refine p2 13 (some 54) ?_
            refine p2 14 (some 55) ?_
            refine p1 15 (some 56) ?_
            refine p1 16 (some 57) ?_
            refine p1 17 (some 40) ?_
            refine done_ (done_of HT_.out (by kernel_rfl)) ?_
            try go_wp2
            go_meet
            case rel => exact ⟨_, (false), rs_, H', ⟨by have := HJ2.out; have := HK2.out; have := HJ10.out; first | omega | exact Nat.le_refl _⟩, ⟨uV HO_0.out⟩, ⟨uV HO_1.out⟩, ⟨uR HO_4.out⟩, ⟨uW HB.out⟩⟩
         case rest =>
          clear HC17
          try clear c1
          try clear c2
          try clear p2
          try clear q2
          try clear hx2
          try clear qi2
          try clear c5
          try clear c10
          try clear c12
          try clear c12b0
          try clear c12b1
          try clear c16
          try clear c18
          try clear c18b0
          try clear c18b1
          try clear c18b2
          try clear p20
          try clear q20
          try clear hx20
          try clear qi20
          try clear c21
          try clear c21b0
          try clear c21b1
          try clear c22
          try clear c22b0
          try clear c22b1
          try clear c23
          try clear c23b0
          try clear c23b1
          try clear c25
          try clear hx205_0
          try clear hx205_1
          try clear hx205_2
          try clear hx205_3
          try clear hx206_0
          try clear hx206_1
          try clear hx206_2
          try clear hx206_3
          try clear p2
          try clear p205
          try clear p206
          try clear q205
          try clear q206
          obtain ⟨kq, x40_16, rfl, HA, HJ16, HO_0, HO_1, HO_4, HB⟩ := hcut
          cases kq with
          | zero => exact absurd HA.out (by simp [diff_Of.j3])
          | succ kj16 =>
           have H := HA.out
           clear HA
           simp only [diff_Of.j3] at H
           by_cases c32 : x40_16 = true
           ·
            subst c32
            rw [if_pos rfl] at H
            obtain ⟨c33, H⟩ := gd H
            have c33b0 : decide (0 < (x0_2.length : Int)) = true := decide_eq_true c33
            have c33b1 : decide (0 < x0_2.length) = true := decide_eq_true (by omega)
            clear c33
            obtain ⟨⟨t209, t210, t211, t212, t213⟩, A34, H⟩ := bs H
            try dsimp only at H
            obtain ⟨c35, H⟩ := gd H
            have LMc35 := Aside0.mk c35
            clear c35
            obtain ⟨y214, hy214⟩ : ∃ y_ : List (S48), y_ = (x4_2 ++ [(⟨(⟨t209, t210, (⟨t211, t212⟩ : S43)⟩ : S45), t213⟩ : S48)]) := ⟨_, rfl⟩
            replace H : (if 1 ≤ (x0_2.length : Int) then (diff_Of.l0 kj16 (x0_2.drop 1) x1_2 y214) else (none)) = some (r1, r2) := by first | (rw [hy214]; with_reducible exact H) | (have H2_ := (Option.bind_some _ _).symm.trans H; rw [hy214]; with_reducible exact H2_) | (have H2_ := (Option.bind_some _ _).symm.trans H; with_reducible exact H2_) | with_reducible exact H | (rw [hy214]; exact H) | exact H
            have Ny214 := Aside0.mk hy214
            clear hy214
            obtain ⟨c36, H⟩ := gd H
            have c36b0 := eq_true c36
            have c36b1 : decide (1 ≤ (x0_2.length : Int)) = true := decide_eq_true c36
            clear c36
            obtain ⟨y217, hy217⟩ : ∃ y_ : List (S45), y_ = (x0_2.drop 1) := ⟨_, rfl⟩
            replace H : (diff_Of.l0 kj16 y217 x1_2 y214) = some (r1, r2) := by first | (rw [hy217]; with_reducible exact H) | (have H2_ := (Option.bind_some _ _).symm.trans H; rw [hy217]; with_reducible exact H2_) | (have H2_ := (Option.bind_some _ _).symm.trans H; with_reducible exact H2_) | with_reducible exact H | (rw [hy217]; exact H) | exact H
            have Ny217 := Aside0.mk hy217
            clear hy217
            have H' := Aside0.mk H
            clear H
            obtain ⟨Ao37, co37, eo37⟩ := Kd.V_slice HO_0.out
            subst eo37
            have p208 : 0 ≤ (0 : Int) := (by omega)
            have q208 : 0 < (x0_2.length : Int) := od
            obtain ⟨ad208, e208, hx208_0, hx208_1, hx208_2, hx208_3⟩ := at_T45 (Kd.V_reads' HO_0.out).2.2 0 p208 q208
            cases e208
            have qi208 : (0 < x0_2.length) = True := eq_true (by omega)
            (try rw [show ((0 : Int)).toNat = 0 from rfl] at hx208_0)
            (try rw [show 0 * 4 = 0 from rfl] at hx208_0)
            (try rw [Addr.add_zero'] at hx208_0)
            (try rw [show ((0 : Int)).toNat = 0 from rfl] at hx208_1)
            (try rw [show 0 * 4 = 0 from rfl] at hx208_1)
            (try rw [Addr.add_zero'] at hx208_1)
            (try rw [show ((0 : Int)).toNat = 0 from rfl] at hx208_2)
            (try rw [show 0 * 4 = 0 from rfl] at hx208_2)
            (try rw [Addr.add_zero'] at hx208_2)
            (try rw [show ((0 : Int)).toNat = 0 from rfl] at hx208_3)
            (try rw [show 0 * 4 = 0 from rfl] at hx208_3)
            (try rw [Addr.add_zero'] at hx208_3)
            replace p208 := eq_true p208
            replace q208 := eq_true q208
            go_wp2_with (first | (refine gL (some 62) rfl Tryz.func26 #[.agg #[.int .i64 ((rd_T45 x0_2 0).f0), .string ((rd_T45 x0_2 0).f1), .int .i64 ((rd_T45 x0_2 0).f2.f0), .bool ((rd_T45 x0_2 0).f2.f1)]] ?_; (with_reducible refine (diff_gone.calls ((rd_T45 x0_2 0).f0) ((rd_T45 x0_2 0).f1) ((rd_T45 x0_2 0).f2.f0) ((rd_T45 x0_2 0).f2.f1) t209 t210 t211 t212 t213 _ A34.out).mono ?_); rintro e w38 ⟨rfl, hb⟩; refine ⟨_, rfl, ?_⟩; replace HO_0 := cV HO_0 hb; replace HO_1 := cV HO_1 hb; replace HO_4 := cR HO_4 hb; replace HB := cW HB hb; (try clear hb)) | ((with_reducible refine gate_builtin (b := .append) (xs := #[.tmp 58, .tmp 63]) rfl ?_); (try (refine gate_guard (by rfl) ?_; dsimp only)); at_builtin; refine Kd.R_append k48 (w0 := w) w.heap.size rfl (.tmp 58) (.tmp 63) 25 48 (.agg #[(.int .i64 0), (.string ⟨#[]⟩), (.int .i64 0), (.bool false), (.bool false)]) 48 rfl Tryz.underlying25 info48 rfl (by decide) (by omega) u4 x4_2 (⟨(⟨t209, t210, (⟨t211, t212⟩ : S43)⟩ : S45), t213⟩ : S48) [.int .i64 t209, .string t210, .int .i64 t211, .bool t212, .bool t213] (fun k_ => (w.heap.size ≤ k_)) (fun _ => False) rfl rfl ?aP (fun _ hk => hk.elim) ?aF ?aO ?aB ?aS ?aL ?_; (case aP => exact k48_mkM _ _ _ (⟨(⟨t209, t210, (⟨t211, t212⟩ : S43)⟩ : S45), t213⟩ : S48)); (case aB => exact (uW HB.out)); (case aF => exact (fun k_ hk => (Nat.le_trans (below_size (uW HB.out)) hk))); (case aO => exact (uR HO_4.out)); (case aS => exact (below_size (uW HB.out))); (case aL => have := LMc35.out; omega); intro v215 w39 ho hb hg hat; rw [← Ny214.out] at ho; replace HO_0 := Aside0.mk (Kd.V_afterv (ok := (fun k_ => ((P0_ k_ ∨ P1_ k_) ∨ w.heap.size ≤ k_))) (uV HO_0.out) hg hat); replace HO_1 := Aside0.mk (Kd.V_afterv (ok := (fun k_ => ((P0_ k_ ∨ P1_ k_) ∨ w.heap.size ≤ k_))) (uV HO_1.out) hg hat); replace HB := Aside0.mk (hb); have HO216 := Aside0.mk (ho); clear HO_4; clear ho hb hg hat; have q40 : (1 : Int) ≤ ((x0_2.length : Int) : Int) := od; obtain ⟨i040, hi040, _, hsz40, _⟩ := info_parts info45; have hroom40 : x0_2.length ≤ co37 := (Kd.V_reads' HO_0.out).2.1; have hC40 : Kd.F k45 _ _ (some ad208) x0_2.length x0_2 := (Kd.V_at (base := w.heap.size) HO_0.out).2.2; have hcut40 := cut_from (P := Tryz.prog) 22 45 .i64 Tryz.underlying22 hi040 4 hsz40 (some ad208) x0_2.length co37 1 (by omega) q40; have hr40 := Kd.F_cut (m := (1 : Int).toNat) (c := co37) hC40 (by omega) hroom40; obtain ⟨A40, hA40⟩ : ∃ A1, A1 = (if co37 = (1 : Int).toNat then (some ad208) else ((some ad208) : Option Addr).map (·.add ((1 : Int).toNat * 4))) := ⟨_, rfl⟩; obtain ⟨c40, hc40⟩ : ∃ c1, c1 = co37 - (1 : Int).toNat := ⟨_, rfl⟩; have hy40 : y217.length = x0_2.length - (1 : Int).toNat := (by rw [Ny217.out, List.length_drop] <;> omega); rw [show (x0_2).drop (1 : Int).toNat = y217 from Ny217.out.symm] at hr40; replace hr40 : Kd.F k45 _ _ A40 y217.length y217 := (by rw [hA40]; exact hr40); rw [← hy40, ← hA40, ← hc40] at hcut40; have HO221 := Aside0.mk (show Kd.V k45 45 _ w.heap.size _ (.slice A40 y217.length c40) y217 from Kd.V_mk (by rw [hy40, hc40]; exact Nat.sub_le_sub_right hroom40 _) hr40); have HC221 := Aside0.mk (show y217.length ≤ c40 from by rw [hy40, hc40]; exact Nat.sub_le_sub_right hroom40 _); clear hr40 hC40 hroom40 hi040 hsz40 hc40; have KY40 := Aside0.mk hy40; have KA40 := Aside0.mk hA40; clear hy40 hA40; replace q40 := eq_true q40))
            go_roundg kj16
            case measure => have := HJ2.out; have := HK2.out; have := HJ10.out; have := HJ16.out; omega
            case rel => exact ⟨(y217), (x1_2), (y214), H', ⟨by have := HJ2.out; have := HK2.out; have := HJ10.out; have := HJ16.out; omega⟩, ⟨uV HO221.out⟩, ⟨uV HO_1.out⟩, ⟨uR HO216.out⟩, ⟨uW HB.out⟩⟩
           ·
            replace c32 := Bool.eq_false_iff.mpr c32
            subst c32
            rw [if_neg (show ¬ (false = true) by decide)] at H
            have HC41 := Aside0.mk H
            clear H
            go_upto_region 10 with (fail)
            go_cut [67] (fun v67 wc => ∃ (kq : Nat) (x67_40 : Bool), v67 = .bool x67_40 ∧ Aside0 (diff_Of.j4 kq x0_2 x1_2 x4_2 x67_40 = some (r1, r2)) ∧ Aside0 (kq ≤ kj16) ∧ Aside0 (Kd.V k45 45 wc w.heap.size (fun k_ => ((P0_ k_ ∨ P1_ k_) ∨ w.heap.size ≤ k_) ∧ some k_ ≠ (u4 : Value).ownBlock) u0 x0_2) ∧ Aside0 (Kd.V k45 45 wc w.heap.size (fun k_ => ((P0_ k_ ∨ P1_ k_) ∨ w.heap.size ≤ k_) ∧ some k_ ≠ (u4 : Value).ownBlock) u1 x1_2) ∧ Aside0 (Kd.R k48 48 wc w.heap.size (fun k_ => (w.heap.size ≤ k_)) u4 x4_2) ∧ Aside0 (Below w.heap.size w wc))
            case first =>
             have H := HC41.out
             clear HC41
             by_cases c42 : (x0_2.length : Int) = 0
             ·
              rw [if_pos c42] at H
              have c42b0 : ((x0_2.length : Int) == 0) = true := beq_iff_eq.mpr c42
              have c42b1 : ((x0_2.length : Int) != 0) = false := bne_eq_false_iff_eq.mpr c42
              clear c42
              (first | rw [c42b0] | (simp only [i64_w, i32_w]; rw [c42b0]) | skip)
              have H' := Aside0.mk H
              clear H
              try go_wp2
              replace HO_0 := Aside0.mk (Kd.V_drew HO_0.out)
              replace HO_1 := Aside0.mk (Kd.V_drew HO_1.out)
              replace HO_4 := Aside0.mk (Kd.R_drew HO_4.out)
              replace HB := Aside0.mk (below_drew1 HB.out)
              obtain ⟨Ao44, co44, eo44⟩ := Kd.V_slice HO_0.out
              (first | subst eo44 | (injection eo44 with f1_ f2_ f3_; have f4_ := f1_.symm; have f5_ := f3_.symm; clear f1_ f2_ f3_; subst f4_; subst f5_))
              refine start_ (n := 13) (S := fun w' => True) (ds := []) _ (by kernel_rfl) rfl rfl trivial (fun hHeld => ?_); refine with_tabW diff_Of.tab10 diff_Of.bits10 (fun HT_ HW_ => ?_)
              generalize wc.drew = w43 at HO_0 HO_1 HO_4 HB hHeld ⊢
              refine p1 0 (some 68) ?_
              refine p1 1 (some 69) ?_
              refine p1 2 (some 70) ?_
              refine p1 3 (some 71) ?_
              refine p2 4 (some 72) ?_
              refine p2 5 (some 73) ?_
              refine p2 6 (some 74) ?_
              refine p2 7 (some 75) ?_
              refine p2 8 (some 76) ?_
              refine p2 9 (some 77) ?_
              refine p2 10 (some 78) ?_
              refine p1 11 (some 79) ?_
              refine p1 12 (some 67) ?_
              refine done_ (done_of HT_.out (by kernel_rfl)) ?_
              try go_wp2
              go_meet
              case rel => exact ⟨_, (true), rs_, H', ⟨by have := HJ2.out; have := HK2.out; have := HJ10.out; have := HJ16.out; first | omega | exact Nat.le_refl _⟩, ⟨uV HO_0.out⟩, ⟨uV HO_1.out⟩, ⟨uR HO_4.out⟩, ⟨uW HB.out⟩⟩
             ·
              rw [if_neg c42] at H
              have c42b0 : ((x0_2.length : Int) == 0) = false := beq_eq_false_iff_ne.mpr c42
              have c42b1 : ((x0_2.length : Int) != 0) = true := bne_iff_ne.mpr c42
              have c42b2 : ¬ (x0_2 = []) := fun h_ => c42 (by rw [h_]; rfl)
              (first | rw [c42b0] | (simp only [i64_w, i32_w]; rw [c42b0]) | skip)
              obtain ⟨c45, H⟩ := gd H
              have c45b0 : decide (0 < (x1_2.length : Int)) = true := decide_eq_true c45
              have c45b1 : decide (0 < x1_2.length) = true := decide_eq_true (by omega)
              clear c45
              obtain ⟨c46, H⟩ := gd H
              have c46b0 : decide (0 < (x0_2.length : Int)) = true := decide_eq_true c46
              have c46b1 : decide (0 < x0_2.length) = true := decide_eq_true (by omega)
              clear c46
              obtain ⟨t224, A47, H⟩ := bs H
              try dsimp only at H
              have H' := Aside0.mk H
              clear H
              try go_wp2
              replace HO_0 := Aside0.mk (Kd.V_drew HO_0.out)
              replace HO_1 := Aside0.mk (Kd.V_drew HO_1.out)
              replace HO_4 := Aside0.mk (Kd.R_drew HO_4.out)
              replace HB := Aside0.mk (below_drew1 HB.out)
              obtain ⟨Ao49, co49, eo49⟩ := Kd.V_slice HO_0.out
              (first | subst eo49 | (injection eo49 with f1_ f2_ f3_; have f4_ := f1_.symm; have f5_ := f3_.symm; clear f1_ f2_ f3_; subst f4_; subst f5_))
              obtain ⟨Ao50, co50, eo50⟩ := Kd.V_slice HO_1.out
              (first | subst eo50 | (injection eo50 with f1_ f2_ f3_; have f4_ := f1_.symm; have f5_ := f3_.symm; clear f1_ f2_ f3_; subst f4_; subst f5_))
              have p222 : 0 ≤ (0 : Int) := (by omega)
              have q222 : 0 < (x1_2.length : Int) := od
              obtain ⟨ad222, e222, hx222_0, hx222_1, hx222_2, hx222_3⟩ := at_T45 (Kd.V_reads' HO_1.out).2.2 0 p222 q222
              cases e222
              have qi222 : (0 < x1_2.length) = True := eq_true (by omega)
              (try rw [show ((0 : Int)).toNat = 0 from rfl] at hx222_0)
              (try rw [show 0 * 4 = 0 from rfl] at hx222_0)
              (try rw [Addr.add_zero'] at hx222_0)
              (try rw [show ((0 : Int)).toNat = 0 from rfl] at hx222_1)
              (try rw [show 0 * 4 = 0 from rfl] at hx222_1)
              (try rw [Addr.add_zero'] at hx222_1)
              (try rw [show ((0 : Int)).toNat = 0 from rfl] at hx222_2)
              (try rw [show 0 * 4 = 0 from rfl] at hx222_2)
              (try rw [Addr.add_zero'] at hx222_2)
              (try rw [show ((0 : Int)).toNat = 0 from rfl] at hx222_3)
              (try rw [show 0 * 4 = 0 from rfl] at hx222_3)
              (try rw [Addr.add_zero'] at hx222_3)
              replace p222 := eq_true p222
              replace q222 := eq_true q222
              have p223 : 0 ≤ (0 : Int) := (by omega)
              have q223 : 0 < (x0_2.length : Int) := od
              obtain ⟨ad223, e223, hx223_0, hx223_1, hx223_2, hx223_3⟩ := at_T45 (Kd.V_reads' HO_0.out).2.2 0 p223 q223
              cases e223
              have qi223 : (0 < x0_2.length) = True := eq_true (by omega)
              (try rw [show ((0 : Int)).toNat = 0 from rfl] at hx223_0)
              (try rw [show 0 * 4 = 0 from rfl] at hx223_0)
              (try rw [Addr.add_zero'] at hx223_0)
              (try rw [show ((0 : Int)).toNat = 0 from rfl] at hx223_1)
              (try rw [show 0 * 4 = 0 from rfl] at hx223_1)
              (try rw [Addr.add_zero'] at hx223_1)
              (try rw [show ((0 : Int)).toNat = 0 from rfl] at hx223_2)
              (try rw [show 0 * 4 = 0 from rfl] at hx223_2)
              (try rw [Addr.add_zero'] at hx223_2)
              (try rw [show ((0 : Int)).toNat = 0 from rfl] at hx223_3)
              (try rw [show 0 * 4 = 0 from rfl] at hx223_3)
              (try rw [Addr.add_zero'] at hx223_3)
              replace p223 := eq_true p223
              replace q223 := eq_true q223
              refine start_ (n := 13) (S := fun w' => w'.cell? ad222 = some (.int .i64 ((rd_T45 x1_2 0).f0)) ∧ w'.cell? ⟨ad222.block, ad222.off + 1, none⟩ = some (.string ((rd_T45 x1_2 0).f1)) ∧ w'.cell? ⟨ad222.block, ad222.off + 2, none⟩ = some (.int .i64 ((rd_T45 x1_2 0).f2.f0)) ∧ w'.cell? ⟨ad222.block, ad222.off + 3, none⟩ = some (.bool ((rd_T45 x1_2 0).f2.f1)) ∧ w'.cell? ad223 = some (.int .i64 ((rd_T45 x0_2 0).f0)) ∧ w'.cell? ⟨ad223.block, ad223.off + 1, none⟩ = some (.string ((rd_T45 x0_2 0).f1)) ∧ w'.cell? ⟨ad223.block, ad223.off + 2, none⟩ = some (.int .i64 ((rd_T45 x0_2 0).f2.f0)) ∧ w'.cell? ⟨ad223.block, ad223.off + 3, none⟩ = some (.bool ((rd_T45 x0_2 0).f2.f1))) (ds := []) _ (by kernel_rfl) rfl rfl ⟨hx222_0, hx222_1, hx222_2, hx222_3, hx223_0, hx223_1, hx223_2, hx223_3⟩ (fun hHeld => ?_); refine with_tabW diff_Of.tab10 diff_Of.bits10 (fun HT_ HW_ => ?_)
              generalize wc.drew = w48 at HO_0 HO_1 HO_4 HB hx222_0 hx222_1 hx222_2 hx222_3 hx223_0 hx223_1 hx223_2 hx223_3 hHeld ⊢
              refine p1 0 (some 68) ?_
              refine p1 1 (some 69) ?_
              refine p1 2 (some 70) ?_
              refine p1 3 (some 71) ?_
              refine p1 4 (some 72) ?_
              refine p1 5 (some 73) ?_
              refine p1 7 (some 75) ?_
              refine p1 8 (some 76) ?_
              refine t1 6 (some 74) rfl rfl hHeld (Or.inl ⟨by rfl, by rintro w' ⟨s0, s1, s2, s3, s4, s5, s6, s7⟩; go_simp; with_reducible rfl⟩) ?_
              refine t1 9 (some 77) rfl rfl hHeld (Or.inl ⟨by rfl, by rintro w' ⟨s0, s1, s2, s3, s4, s5, s6, s7⟩; go_simp; with_reducible rfl⟩) ?_
              refine o1 10 (some 78) rfl rfl (fun K hK => ?_)
              refine gS Tryz.func25 #[.agg #[.int .i64 ((rd_T45 x1_2 0).f0), .string ((rd_T45 x1_2 0).f1), .int .i64 ((rd_T45 x1_2 0).f2.f0), .bool ((rd_T45 x1_2 0).f2.f1)], .agg #[.int .i64 ((rd_T45 x0_2 0).f0), .string ((rd_T45 x0_2 0).f1), .int .i64 ((rd_T45 x0_2 0).f2.f0), .bool ((rd_T45 x0_2 0).f2.f1)]] ?_
              with_reducible refine (row_Before.calls kj16 ((rd_T45 x1_2 0).f0) ((rd_T45 x1_2 0).f1) ((rd_T45 x1_2 0).f2.f0) ((rd_T45 x1_2 0).f2.f1) ((rd_T45 x0_2 0).f0) ((rd_T45 x0_2 0).f1) ((rd_T45 x0_2 0).f2.f0) ((rd_T45 x0_2 0).f2.f1) t224 _ A47.out).mono ?_
              rintro e w51 ⟨rfl, hb⟩
              have HS0_ := (hb.cell (World.block_lt_of_cell? _ _ (hHeld.1))).trans (hHeld.1)
              have HS1_ := (hb.cell (World.block_lt_of_cell? _ _ (hHeld.2.1))).trans (hHeld.2.1)
              have HS2_ := (hb.cell (World.block_lt_of_cell? _ _ (hHeld.2.2.1))).trans (hHeld.2.2.1)
              have HS3_ := (hb.cell (World.block_lt_of_cell? _ _ (hHeld.2.2.2.1))).trans (hHeld.2.2.2.1)
              have HS4_ := (hb.cell (World.block_lt_of_cell? _ _ (hHeld.2.2.2.2.1))).trans (hHeld.2.2.2.2.1)
              have HS5_ := (hb.cell (World.block_lt_of_cell? _ _ (hHeld.2.2.2.2.2.1))).trans (hHeld.2.2.2.2.2.1)
              have HS6_ := (hb.cell (World.block_lt_of_cell? _ _ (hHeld.2.2.2.2.2.2.1))).trans (hHeld.2.2.2.2.2.2.1)
              have HS7_ := (hb.cell (World.block_lt_of_cell? _ _ (hHeld.2.2.2.2.2.2.2))).trans (hHeld.2.2.2.2.2.2.2)
              refine ⟨_, rfl, ?_⟩
              replace HO_0 := cV HO_0 hb
              replace HO_1 := cV HO_1 hb
              replace HO_4 := cR HO_4 hb
              replace HB := cW HB hb
              (try clear hb)
              refine hK.out _ _ ⟨HS0_, HS1_, HS2_, HS3_, HS4_, HS5_, HS6_, HS7_⟩ (fun hHeld => ?_)
              clear hK K
              refine norm_ (a' := ?_) ?_ ?_
              rotate_left
              ·
               show Act.put _ (some 78) _ = _
               simp only [Act.put, List.setIfInBounds_toArray, List.set_cons_zero, List.set_cons_succ, i64_w, i32_w]
               rfl
              refine p1 11 (some 79) ?_
              refine p1 12 (some 67) ?_
              refine done_ (done_of HT_.out (by kernel_rfl)) ?_
              try go_wp2
              go_meet
              case rel => exact ⟨_, (t224), rs_, H', ⟨by have := HJ2.out; have := HK2.out; have := HJ10.out; have := HJ16.out; first | omega | exact Nat.le_refl _⟩, ⟨uV HO_0.out⟩, ⟨uV HO_1.out⟩, ⟨uR HO_4.out⟩, ⟨uW HB.out⟩⟩
            case rest =>
             clear HC41
             try clear c1
             try clear c2
             try clear p2
             try clear q2
             try clear hx2
             try clear qi2
             try clear c3
             try clear c4
             try clear q4
             try clear c5
             try clear c10
             try clear c12
             try clear c12b0
             try clear c12b1
             try clear c16
             try clear c18
             try clear c18b0
             try clear c18b1
             try clear c18b2
             try clear p20
             try clear q20
             try clear hx20
             try clear qi20
             try clear c21
             try clear c21b0
             try clear c21b1
             try clear c22
             try clear c22b0
             try clear c22b1
             try clear p22
             try clear q22
             try clear hx22
             try clear qi22
             try clear c23
             try clear c23b0
             try clear c23b1
             try clear c25
             try clear c26
             try clear c32
             try clear c33
             try clear c33b0
             try clear c33b1
             try clear c35
             try clear c36
             try clear c36b0
             try clear c36b1
             try clear c40
             try clear q40
             try clear c42
             try clear c42b0
             try clear c42b1
             try clear c42b2
             try clear c45
             try clear c45b0
             try clear c45b1
             try clear c46
             try clear c46b0
             try clear c46b1
             try clear hx205_0
             try clear hx205_1
             try clear hx205_2
             try clear hx205_3
             try clear hx206_0
             try clear hx206_1
             try clear hx206_2
             try clear hx206_3
             try clear hx208_0
             try clear hx208_1
             try clear hx208_2
             try clear hx208_3
             try clear hx222_0
             try clear hx222_1
             try clear hx222_2
             try clear hx222_3
             try clear hx223_0
             try clear hx223_1
             try clear hx223_2
             try clear hx223_3
             try clear p2
             try clear p20
             try clear p205
             try clear p206
             try clear p208
             try clear p222
             try clear p223
             try clear q2
             try clear q20
             try clear q205
             try clear q206
             try clear q208
             try clear q222
             try clear q223
             try clear q40
             obtain ⟨kq, x67_40, rfl, HA, HJ40, HO_0, HO_1, HO_4, HB⟩ := hcut
             cases kq with
             | zero => exact absurd HA.out (by simp [diff_Of.j4])
             | succ kj40 =>
              have H := HA.out
              clear HA
              simp only [diff_Of.j4] at H
              by_cases c52 : x67_40 = true
              ·
               subst c52
               rw [if_pos rfl] at H
               obtain ⟨c53, H⟩ := gd H
               have c53b0 : decide (0 < (x1_2.length : Int)) = true := decide_eq_true c53
               have c53b1 : decide (0 < x1_2.length) = true := decide_eq_true (by omega)
               clear c53
               obtain ⟨c54, H⟩ := gd H
               have LMc54 := Aside0.mk c54
               clear c54
               obtain ⟨y226, hy226⟩ : ∃ y_ : List (S48), y_ = (x4_2 ++ [(⟨(⟨(rd_T45 x1_2 0).f0, (rd_T45 x1_2 0).f1, (⟨(rd_T45 x1_2 0).f2.f0, (rd_T45 x1_2 0).f2.f1⟩ : S43)⟩ : S45), false⟩ : S48)]) := ⟨_, rfl⟩
               replace H : (if 1 ≤ (x1_2.length : Int) then (diff_Of.l0 kj40 x0_2 (x1_2.drop 1) y226) else (none)) = some (r1, r2) := by first | (rw [hy226]; with_reducible exact H) | (have H2_ := (Option.bind_some _ _).symm.trans H; rw [hy226]; with_reducible exact H2_) | (have H2_ := (Option.bind_some _ _).symm.trans H; with_reducible exact H2_) | with_reducible exact H | (rw [hy226]; exact H) | exact H
               have Ny226 := Aside0.mk hy226
               clear hy226
               obtain ⟨c55, H⟩ := gd H
               have c55b0 := eq_true c55
               have c55b1 : decide (1 ≤ (x1_2.length : Int)) = true := decide_eq_true c55
               clear c55
               obtain ⟨y229, hy229⟩ : ∃ y_ : List (S45), y_ = (x1_2.drop 1) := ⟨_, rfl⟩
               replace H : (diff_Of.l0 kj40 x0_2 y229 y226) = some (r1, r2) := by first | (rw [hy229]; with_reducible exact H) | (have H2_ := (Option.bind_some _ _).symm.trans H; rw [hy229]; with_reducible exact H2_) | (have H2_ := (Option.bind_some _ _).symm.trans H; with_reducible exact H2_) | with_reducible exact H | (rw [hy229]; exact H) | exact H
               have Ny229 := Aside0.mk hy229
               clear hy229
               have H' := Aside0.mk H
               clear H
               obtain ⟨Ao56, co56, eo56⟩ := Kd.V_slice HO_1.out
               subst eo56
               have p225 : 0 ≤ (0 : Int) := (by omega)
               have q225 : 0 < (x1_2.length : Int) := od
               obtain ⟨ad225, e225, hx225_0, hx225_1, hx225_2, hx225_3⟩ := at_T45 (Kd.V_reads' HO_1.out).2.2 0 p225 q225
               cases e225
               have qi225 : (0 < x1_2.length) = True := eq_true (by omega)
               (try rw [show ((0 : Int)).toNat = 0 from rfl] at hx225_0)
               (try rw [show 0 * 4 = 0 from rfl] at hx225_0)
               (try rw [Addr.add_zero'] at hx225_0)
               (try rw [show ((0 : Int)).toNat = 0 from rfl] at hx225_1)
               (try rw [show 0 * 4 = 0 from rfl] at hx225_1)
               (try rw [Addr.add_zero'] at hx225_1)
               (try rw [show ((0 : Int)).toNat = 0 from rfl] at hx225_2)
               (try rw [show 0 * 4 = 0 from rfl] at hx225_2)
               (try rw [Addr.add_zero'] at hx225_2)
               (try rw [show ((0 : Int)).toNat = 0 from rfl] at hx225_3)
               (try rw [show 0 * 4 = 0 from rfl] at hx225_3)
               (try rw [Addr.add_zero'] at hx225_3)
               replace p225 := eq_true p225
               replace q225 := eq_true q225
               go_wp2_with (first | ((with_reducible refine gate_builtin (b := .append) (xs := #[.tmp 80, .tmp 85]) rfl ?_); (try (refine gate_guard (by rfl) ?_; dsimp only)); at_builtin; refine Kd.R_append k48 (w0 := w) w.heap.size rfl (.tmp 80) (.tmp 85) 25 48 (.agg #[(.int .i64 0), (.string ⟨#[]⟩), (.int .i64 0), (.bool false), (.bool false)]) 48 rfl Tryz.underlying25 info48 rfl (by decide) (by omega) u4 x4_2 (⟨(⟨(rd_T45 x1_2 0).f0, (rd_T45 x1_2 0).f1, (⟨(rd_T45 x1_2 0).f2.f0, (rd_T45 x1_2 0).f2.f1⟩ : S43)⟩ : S45), false⟩ : S48) [.int .i64 ((rd_T45 x1_2 0).f0), .string ((rd_T45 x1_2 0).f1), .int .i64 ((rd_T45 x1_2 0).f2.f0), .bool ((rd_T45 x1_2 0).f2.f1), .bool false] (fun k_ => (w.heap.size ≤ k_)) (fun _ => False) rfl rfl ?aP (fun _ hk => hk.elim) ?aF ?aO ?aB ?aS ?aL ?_; (case aP => exact k48_mkM _ _ _ (⟨(⟨(rd_T45 x1_2 0).f0, (rd_T45 x1_2 0).f1, (⟨(rd_T45 x1_2 0).f2.f0, (rd_T45 x1_2 0).f2.f1⟩ : S43)⟩ : S45), false⟩ : S48)); (case aB => exact (uW HB.out)); (case aF => exact (fun k_ hk => (Nat.le_trans (below_size (uW HB.out)) hk))); (case aO => exact (uR HO_4.out)); (case aS => exact (below_size (uW HB.out))); (case aL => have := LMc54.out; omega); intro v227 w57 ho hb hg hat; rw [← Ny226.out] at ho; replace HO_0 := Aside0.mk (Kd.V_afterv (ok := (fun k_ => ((P0_ k_ ∨ P1_ k_) ∨ w.heap.size ≤ k_))) (uV HO_0.out) hg hat); replace HO_1 := Aside0.mk (Kd.V_afterv (ok := (fun k_ => ((P0_ k_ ∨ P1_ k_) ∨ w.heap.size ≤ k_))) (uV HO_1.out) hg hat); replace HB := Aside0.mk (hb); have HO228 := Aside0.mk (ho); clear HO_4; clear ho hb hg hat; have q58 : (1 : Int) ≤ ((x1_2.length : Int) : Int) := od; obtain ⟨i058, hi058, _, hsz58, _⟩ := info_parts info45; have hroom58 : x1_2.length ≤ co56 := (Kd.V_reads' HO_1.out).2.1; have hC58 : Kd.F k45 _ _ (some ad225) x1_2.length x1_2 := (Kd.V_at (base := w.heap.size) HO_1.out).2.2; have hcut58 := cut_from (P := Tryz.prog) 22 45 .i64 Tryz.underlying22 hi058 4 hsz58 (some ad225) x1_2.length co56 1 (by omega) q58; have hr58 := Kd.F_cut (m := (1 : Int).toNat) (c := co56) hC58 (by omega) hroom58; obtain ⟨A58, hA58⟩ : ∃ A1, A1 = (if co56 = (1 : Int).toNat then (some ad225) else ((some ad225) : Option Addr).map (·.add ((1 : Int).toNat * 4))) := ⟨_, rfl⟩; obtain ⟨c58, hc58⟩ : ∃ c1, c1 = co56 - (1 : Int).toNat := ⟨_, rfl⟩; have hy58 : y229.length = x1_2.length - (1 : Int).toNat := (by rw [Ny229.out, List.length_drop] <;> omega); rw [show (x1_2).drop (1 : Int).toNat = y229 from Ny229.out.symm] at hr58; replace hr58 : Kd.F k45 _ _ A58 y229.length y229 := (by rw [hA58]; exact hr58); rw [← hy58, ← hA58, ← hc58] at hcut58; have HO233 := Aside0.mk (show Kd.V k45 45 _ w.heap.size _ (.slice A58 y229.length c58) y229 from Kd.V_mk (by rw [hy58, hc58]; exact Nat.sub_le_sub_right hroom58 _) hr58); have HC233 := Aside0.mk (show y229.length ≤ c58 from by rw [hy58, hc58]; exact Nat.sub_le_sub_right hroom58 _); clear hr58 hC58 hroom58 hi058 hsz58 hc58; have KY58 := Aside0.mk hy58; have KA58 := Aside0.mk hA58; clear hy58 hA58; replace q58 := eq_true q58))
               go_roundg kj40
               case measure => have := HJ2.out; have := HK2.out; have := HJ10.out; have := HJ16.out; have := HJ40.out; omega
               case rel => exact ⟨(x0_2), (y229), (y226), H', ⟨by have := HJ2.out; have := HK2.out; have := HJ10.out; have := HJ16.out; have := HJ40.out; omega⟩, ⟨uV HO_0.out⟩, ⟨uV HO233.out⟩, ⟨uR HO228.out⟩, ⟨uW HB.out⟩⟩
              ·
               replace c52 := Bool.eq_false_iff.mpr c52
               subst c52
               rw [if_neg (show ¬ (false = true) by decide)] at H
               obtain ⟨c59, H⟩ := gd H
               have c59b0 : decide (0 < (x0_2.length : Int)) = true := decide_eq_true c59
               have c59b1 : decide (0 < x0_2.length) = true := decide_eq_true (by omega)
               clear c59
               obtain ⟨c60, H⟩ := gd H
               have c60b0 : decide (0 < (x1_2.length : Int)) = true := decide_eq_true c60
               have c60b1 : decide (0 < x1_2.length) = true := decide_eq_true (by omega)
               clear c60
               by_cases c61 : (!(((rd_T45 x0_2 0).f0) == ((rd_T45 x1_2 0).f0)) || (!((((rd_T45 x0_2 0).f1).toList) == (((rd_T45 x1_2 0).f1).toList)) || ((!(((rd_T45 x0_2 0).f2.f0) == ((rd_T45 x1_2 0).f2.f0)) || (!(((rd_T45 x0_2 0).f2.f1) == ((rd_T45 x1_2 0).f2.f1))))))) = true
               ·
                rw [if_pos c61] at H
                have c61b0 : (!(((rd_T45 x0_2 0).f0) == ((rd_T45 x1_2 0).f0)) || (!((((rd_T45 x0_2 0).f1).toList) == (((rd_T45 x1_2 0).f1).toList)) || ((!(((rd_T45 x0_2 0).f2.f0) == ((rd_T45 x1_2 0).f2.f0)) || (!(((rd_T45 x0_2 0).f2.f1) == ((rd_T45 x1_2 0).f2.f1))))))) = true := c61
                clear c61
                obtain ⟨c62, H⟩ := gd H
                have LMc62 := Aside0.mk c62
                clear c62
                obtain ⟨y237, hy237⟩ : ∃ y_ : List (S48), y_ = (x4_2 ++ [(⟨(⟨(rd_T45 x1_2 0).f0, (rd_T45 x1_2 0).f1, (⟨(rd_T45 x1_2 0).f2.f0, (rd_T45 x1_2 0).f2.f1⟩ : S43)⟩ : S45), false⟩ : S48)]) := ⟨_, rfl⟩
                replace H : (if 1 ≤ (x0_2.length : Int) then (if 1 ≤ (x1_2.length : Int) then (diff_Of.l0 kj40 (x0_2.drop 1) (x1_2.drop 1) y237) else (none)) else (none)) = some (r1, r2) := by first | (rw [hy237]; with_reducible exact H) | (have H2_ := (Option.bind_some _ _).symm.trans H; rw [hy237]; with_reducible exact H2_) | (have H2_ := (Option.bind_some _ _).symm.trans H; with_reducible exact H2_) | with_reducible exact H | (rw [hy237]; exact H) | exact H
                have Ny237 := Aside0.mk hy237
                clear hy237
                obtain ⟨c63, H⟩ := gd H
                have c63b0 := eq_true c63
                have c63b1 : decide (1 ≤ (x0_2.length : Int)) = true := decide_eq_true c63
                clear c63
                obtain ⟨y240, hy240⟩ : ∃ y_ : List (S45), y_ = (x0_2.drop 1) := ⟨_, rfl⟩
                replace H : (if 1 ≤ (x1_2.length : Int) then (diff_Of.l0 kj40 y240 (x1_2.drop 1) y237) else (none)) = some (r1, r2) := by first | (rw [hy240]; with_reducible exact H) | (have H2_ := (Option.bind_some _ _).symm.trans H; rw [hy240]; with_reducible exact H2_) | (have H2_ := (Option.bind_some _ _).symm.trans H; with_reducible exact H2_) | with_reducible exact H | (rw [hy240]; exact H) | exact H
                have Ny240 := Aside0.mk hy240
                clear hy240
                obtain ⟨c64, H⟩ := gd H
                have c64b0 := eq_true c64
                have c64b1 : decide (1 ≤ (x1_2.length : Int)) = true := decide_eq_true c64
                clear c64
                obtain ⟨y245, hy245⟩ : ∃ y_ : List (S45), y_ = (x1_2.drop 1) := ⟨_, rfl⟩
                replace H : (diff_Of.l0 kj40 y240 y245 y237) = some (r1, r2) := by first | (rw [hy245]; with_reducible exact H) | (have H2_ := (Option.bind_some _ _).symm.trans H; rw [hy245]; with_reducible exact H2_) | (have H2_ := (Option.bind_some _ _).symm.trans H; with_reducible exact H2_) | with_reducible exact H | (rw [hy245]; exact H) | exact H
                have Ny245 := Aside0.mk hy245
                clear hy245
                have H' := Aside0.mk H
                clear H
                try go_wp2
                replace HO_0 := Aside0.mk (Kd.V_drew HO_0.out)
                replace HO_1 := Aside0.mk (Kd.V_drew HO_1.out)
                replace HO_4 := Aside0.mk (Kd.R_drew HO_4.out)
                replace HB := Aside0.mk (below_drew1 HB.out)
                obtain ⟨Ao66, co66, eo66⟩ := Kd.V_slice HO_0.out
                (first | subst eo66 | (injection eo66 with f1_ f2_ f3_; have f4_ := f1_.symm; have f5_ := f3_.symm; clear f1_ f2_ f3_; subst f4_; subst f5_))
                have p234 : 0 ≤ (0 : Int) := (by omega)
                have q234 : 0 < (x0_2.length : Int) := od
                obtain ⟨ad234, e234, hx234_0, hx234_1, hx234_2, hx234_3⟩ := at_T45 (Kd.V_reads' HO_0.out).2.2 0 p234 q234
                cases e234
                have qi234 : (0 < x0_2.length) = True := eq_true (by omega)
                (try rw [show ((0 : Int)).toNat = 0 from rfl] at hx234_0)
                (try rw [show 0 * 4 = 0 from rfl] at hx234_0)
                (try rw [Addr.add_zero'] at hx234_0)
                (try rw [show ((0 : Int)).toNat = 0 from rfl] at hx234_1)
                (try rw [show 0 * 4 = 0 from rfl] at hx234_1)
                (try rw [Addr.add_zero'] at hx234_1)
                (try rw [show ((0 : Int)).toNat = 0 from rfl] at hx234_2)
                (try rw [show 0 * 4 = 0 from rfl] at hx234_2)
                (try rw [Addr.add_zero'] at hx234_2)
                (try rw [show ((0 : Int)).toNat = 0 from rfl] at hx234_3)
                (try rw [show 0 * 4 = 0 from rfl] at hx234_3)
                (try rw [Addr.add_zero'] at hx234_3)
                replace p234 := eq_true p234
                replace q234 := eq_true q234
                obtain ⟨Ao67, co67, eo67⟩ := Kd.V_slice HO_1.out
                (first | subst eo67 | (injection eo67 with f1_ f2_ f3_; have f4_ := f1_.symm; have f5_ := f3_.symm; clear f1_ f2_ f3_; subst f4_; subst f5_))
                have p235 : 0 ≤ (0 : Int) := (by omega)
                have q235 : 0 < (x1_2.length : Int) := od
                obtain ⟨ad235, e235, hx235_0, hx235_1, hx235_2, hx235_3⟩ := at_T45 (Kd.V_reads' HO_1.out).2.2 0 p235 q235
                cases e235
                have qi235 : (0 < x1_2.length) = True := eq_true (by omega)
                (try rw [show ((0 : Int)).toNat = 0 from rfl] at hx235_0)
                (try rw [show 0 * 4 = 0 from rfl] at hx235_0)
                (try rw [Addr.add_zero'] at hx235_0)
                (try rw [show ((0 : Int)).toNat = 0 from rfl] at hx235_1)
                (try rw [show 0 * 4 = 0 from rfl] at hx235_1)
                (try rw [Addr.add_zero'] at hx235_1)
                (try rw [show ((0 : Int)).toNat = 0 from rfl] at hx235_2)
                (try rw [show 0 * 4 = 0 from rfl] at hx235_2)
                (try rw [Addr.add_zero'] at hx235_2)
                (try rw [show ((0 : Int)).toNat = 0 from rfl] at hx235_3)
                (try rw [show 0 * 4 = 0 from rfl] at hx235_3)
                (try rw [Addr.add_zero'] at hx235_3)
                replace p235 := eq_true p235
                replace q235 := eq_true q235
                refine start_ (n := 7) (S := fun w' => w'.cell? ad234 = some (.int .i64 ((rd_T45 x0_2 0).f0)) ∧ w'.cell? ⟨ad234.block, ad234.off + 1, none⟩ = some (.string ((rd_T45 x0_2 0).f1)) ∧ w'.cell? ⟨ad234.block, ad234.off + 2, none⟩ = some (.int .i64 ((rd_T45 x0_2 0).f2.f0)) ∧ w'.cell? ⟨ad234.block, ad234.off + 3, none⟩ = some (.bool ((rd_T45 x0_2 0).f2.f1)) ∧ w'.cell? ad235 = some (.int .i64 ((rd_T45 x1_2 0).f0)) ∧ w'.cell? ⟨ad235.block, ad235.off + 1, none⟩ = some (.string ((rd_T45 x1_2 0).f1)) ∧ w'.cell? ⟨ad235.block, ad235.off + 2, none⟩ = some (.int .i64 ((rd_T45 x1_2 0).f2.f0)) ∧ w'.cell? ⟨ad235.block, ad235.off + 3, none⟩ = some (.bool ((rd_T45 x1_2 0).f2.f1))) (ds := []) _ (by kernel_rfl) rfl rfl ⟨hx234_0, hx234_1, hx234_2, hx234_3, hx235_0, hx235_1, hx235_2, hx235_3⟩ (fun hHeld => ?_)
                generalize wc.drew = w65 at HO_0 HO_1 HO_4 HB hx234_0 hx234_1 hx234_2 hx234_3 hx235_0 hx235_1 hx235_2 hx235_3 hHeld ⊢
                refine pure_ (i := 0) (N := some 22) (v := ?_) (a' := ?_) #[true, false, false, false, false, false, false] rfl rfl (by kernel_rfl) (fun _ _ _ h => h) (Or.inl ⟨by rfl, ?_⟩) ?_ ?_
                rotate_left
                ·
                 intro w'
                 go_simp
                 with_reducible rfl
                rotate_left
                ·
                 simp only [Act.put, List.setIfInBounds_toArray, List.set_cons_zero, List.set_cons_succ, i64_w, i32_w]
                 rfl
                refine pure_ (i := 1) (N := some 23) (v := ?_) (a' := ?_) #[true, true, false, false, false, false, false] rfl rfl (by kernel_rfl) (fun _ _ _ h => h) (Or.inl ⟨by rfl, ?_⟩) ?_ ?_
                rotate_left
                ·
                 intro w'
                 go_simp
                 with_reducible rfl
                rotate_left
                ·
                 simp only [Act.put, List.setIfInBounds_toArray, List.set_cons_zero, List.set_cons_succ, i64_w, i32_w]
                 rfl
                refine pure_ (i := 3) (N := some 25) (v := ?_) (a' := ?_) #[true, true, false, true, false, false, false] rfl rfl (by kernel_rfl) (fun _ _ _ h => h) (Or.inl ⟨by rfl, ?_⟩) ?_ ?_
                rotate_left
                ·
                 intro w'
                 go_simp
                 with_reducible rfl
                rotate_left
                ·
                 simp only [Act.put, List.setIfInBounds_toArray, List.set_cons_zero, List.set_cons_succ, i64_w, i32_w]
                 rfl
                refine pure_ (i := 4) (N := some 26) (v := ?_) (a' := ?_) #[true, true, false, true, true, false, false] rfl rfl (by kernel_rfl) (fun _ _ _ h => h) (Or.inl ⟨by rfl, ?_⟩) ?_ ?_
                rotate_left
                ·
                 intro w'
                 go_simp
                 with_reducible rfl
                rotate_left
                ·
                 simp only [Act.put, List.setIfInBounds_toArray, List.set_cons_zero, List.set_cons_succ, i64_w, i32_w]
                 rfl
                refine take_ (i := 2) (N := some 24) (v := ?_) (a' := ?_) #[true, true, true, true, true, false, false] rfl rfl (by kernel_rfl) (fun _ _ _ h => h) (Or.inl ⟨by rfl, ?_⟩) hHeld ?_ ?_
                rotate_left
                ·
                 rintro w' ⟨s0, s1, s2, s3, s4, s5, s6, s7⟩
                 go_simp
                 with_reducible rfl
                rotate_left
                ·
                 simp only [Act.put, List.setIfInBounds_toArray, List.set_cons_zero, List.set_cons_succ, i64_w, i32_w]
                 rfl
                refine take_ (i := 5) (N := some 27) (v := ?_) (a' := ?_) #[true, true, true, true, true, true, false] rfl rfl (by kernel_rfl) (fun _ _ _ h => h) (Or.inl ⟨by rfl, ?_⟩) hHeld ?_ ?_
                rotate_left
                ·
                 rintro w' ⟨s0, s1, s2, s3, s4, s5, s6, s7⟩
                 go_simp
                 with_reducible rfl
                rotate_left
                ·
                 simp only [Act.put, List.setIfInBounds_toArray, List.set_cons_zero, List.set_cons_succ, i64_w, i32_w]
                 rfl
                refine pure_ (i := 6) (N := some 28) (v := ?_) (a' := ?_) #[true, true, true, true, true, true, true] rfl rfl (by kernel_rfl) (fun _ _ _ h => h) (Or.inl ⟨by rfl, ?_⟩) ?_ ?_
                rotate_left
                ·
                 intro w'
                 go_simp
                 with_reducible rfl
                rotate_left
                ·
                 simp only [Act.put, List.setIfInBounds_toArray, List.set_cons_zero, List.set_cons_succ, i64_w, i32_w]
                 rfl
                refine done_ (by kernel_rfl) ?_
                have p236 : 0 ≤ (0 : Int) := (by omega)
                have q236 : 0 < (x1_2.length : Int) := od
                obtain ⟨ad236, e236, hx236_0, hx236_1, hx236_2, hx236_3⟩ := at_T45 (Kd.V_reads' HO_1.out).2.2 0 p236 q236
                obtain rfl : ad235 = ad236 := (by injection e236)
                have qi236 : (0 < x1_2.length) = True := eq_true (by omega)
                (try rw [show ((0 : Int)).toNat = 0 from rfl] at hx236_0)
                (try rw [show 0 * 4 = 0 from rfl] at hx236_0)
                (try rw [Addr.add_zero'] at hx236_0)
                (try rw [show ((0 : Int)).toNat = 0 from rfl] at hx236_1)
                (try rw [show 0 * 4 = 0 from rfl] at hx236_1)
                (try rw [Addr.add_zero'] at hx236_1)
                (try rw [show ((0 : Int)).toNat = 0 from rfl] at hx236_2)
                (try rw [show 0 * 4 = 0 from rfl] at hx236_2)
                (try rw [Addr.add_zero'] at hx236_2)
                (try rw [show ((0 : Int)).toNat = 0 from rfl] at hx236_3)
                (try rw [show 0 * 4 = 0 from rfl] at hx236_3)
                (try rw [Addr.add_zero'] at hx236_3)
                replace p236 := eq_true p236
                replace q236 := eq_true q236
                try go_wp2_with (first | ((with_reducible refine gate_builtin (b := .append) (xs := #[.tmp 29, .tmp 34]) rfl ?_); (try (refine gate_guard (by rfl) ?_; dsimp only)); at_builtin; refine Kd.R_append k48 (w0 := w) w.heap.size rfl (.tmp 29) (.tmp 34) 25 48 (.agg #[(.int .i64 0), (.string ⟨#[]⟩), (.int .i64 0), (.bool false), (.bool false)]) 48 rfl Tryz.underlying25 info48 rfl (by decide) (by omega) u4 x4_2 (⟨(⟨(rd_T45 x1_2 0).f0, (rd_T45 x1_2 0).f1, (⟨(rd_T45 x1_2 0).f2.f0, (rd_T45 x1_2 0).f2.f1⟩ : S43)⟩ : S45), false⟩ : S48) [.int .i64 ((rd_T45 x1_2 0).f0), .string ((rd_T45 x1_2 0).f1), .int .i64 ((rd_T45 x1_2 0).f2.f0), .bool ((rd_T45 x1_2 0).f2.f1), .bool false] (fun k_ => (w.heap.size ≤ k_)) (fun _ => False) rfl rfl ?aP (fun _ hk => hk.elim) ?aF ?aO ?aB ?aS ?aL ?_; (case aP => exact k48_mkM _ _ _ (⟨(⟨(rd_T45 x1_2 0).f0, (rd_T45 x1_2 0).f1, (⟨(rd_T45 x1_2 0).f2.f0, (rd_T45 x1_2 0).f2.f1⟩ : S43)⟩ : S45), false⟩ : S48)); (case aB => exact (uW HB.out)); (case aF => exact (fun k_ hk => (Nat.le_trans (below_size (uW HB.out)) hk))); (case aO => exact (uR HO_4.out)); (case aS => exact (below_size (uW HB.out))); (case aL => have := LMc62.out; omega); intro v238 w68 ho hb hg hat; rw [← Ny237.out] at ho; replace HO_0 := Aside0.mk (Kd.V_afterv (ok := (fun k_ => ((P0_ k_ ∨ P1_ k_) ∨ w.heap.size ≤ k_))) (uV HO_0.out) hg hat); replace HO_1 := Aside0.mk (Kd.V_afterv (ok := (fun k_ => ((P0_ k_ ∨ P1_ k_) ∨ w.heap.size ≤ k_))) (uV HO_1.out) hg hat); replace HB := Aside0.mk (hb); have HO239 := Aside0.mk (ho); clear HO_4; clear ho hb hg hat))
                replace HO_0 := Aside0.mk (Kd.V_drew HO_0.out)
                replace HO_1 := Aside0.mk (Kd.V_drew HO_1.out)
                replace HO239 := Aside0.mk (Kd.R_drew HO239.out)
                replace HB := Aside0.mk (below_drew1 HB.out)
                have q70 : (1 : Int) ≤ ((x0_2.length : Int) : Int) := od
                obtain ⟨i070, hi070, _, hsz70, _⟩ := info_parts info45
                have hroom70 : x0_2.length ≤ co66 := (Kd.V_reads' HO_0.out).2.1
                have hC70 : Kd.F k45 _ _ (some ad234) x0_2.length x0_2 := (Kd.V_at (base := w.heap.size) HO_0.out).2.2
                have hcut70 := cut_from (P := Tryz.prog) 22 45 .i64 Tryz.underlying22 hi070 4 hsz70 (some ad234) x0_2.length co66 1 (by omega) q70
                have hr70 := Kd.F_cut (m := (1 : Int).toNat) (c := co66) hC70 (by omega) hroom70
                obtain ⟨A70, hA70⟩ : ∃ A1, A1 = (if co66 = (1 : Int).toNat then (some ad234) else ((some ad234) : Option Addr).map (·.add ((1 : Int).toNat * 4))) := ⟨_, rfl⟩
                obtain ⟨c70, hc70⟩ : ∃ c1, c1 = co66 - (1 : Int).toNat := ⟨_, rfl⟩
                have hy70 : y240.length = x0_2.length - (1 : Int).toNat := (by rw [Ny240.out, List.length_drop] <;> omega)
                rw [show (x0_2).drop (1 : Int).toNat = y240 from Ny240.out.symm] at hr70
                replace hr70 : Kd.F k45 _ _ A70 y240.length y240 := (by rw [hA70]; exact hr70)
                rw [← hy70, ← hA70, ← hc70] at hcut70
                have HO244 := Aside0.mk (show Kd.V k45 45 _ w.heap.size _ (.slice A70 y240.length c70) y240 from Kd.V_mk (by rw [hy70, hc70]; exact Nat.sub_le_sub_right hroom70 _) hr70)
                have HC244 := Aside0.mk (show y240.length ≤ c70 from by rw [hy70, hc70]; exact Nat.sub_le_sub_right hroom70 _)
                clear hr70 hC70 hroom70 hi070 hsz70 hc70
                have KY70 := Aside0.mk hy70
                have KA70 := Aside0.mk hA70
                clear hy70 hA70
                replace q70 := eq_true q70
                have q71 : (1 : Int) ≤ ((x1_2.length : Int) : Int) := od
                obtain ⟨i071, hi071, _, hsz71, _⟩ := info_parts info45
                have hroom71 : x1_2.length ≤ co67 := (Kd.V_reads' HO_1.out).2.1
                have hC71 : Kd.F k45 _ _ (some ad235) x1_2.length x1_2 := (Kd.V_at (base := w.heap.size) HO_1.out).2.2
                have hcut71 := cut_from (P := Tryz.prog) 22 45 .i64 Tryz.underlying22 hi071 4 hsz71 (some ad235) x1_2.length co67 1 (by omega) q71
                have hr71 := Kd.F_cut (m := (1 : Int).toNat) (c := co67) hC71 (by omega) hroom71
                obtain ⟨A71, hA71⟩ : ∃ A1, A1 = (if co67 = (1 : Int).toNat then (some ad235) else ((some ad235) : Option Addr).map (·.add ((1 : Int).toNat * 4))) := ⟨_, rfl⟩
                obtain ⟨c71, hc71⟩ : ∃ c1, c1 = co67 - (1 : Int).toNat := ⟨_, rfl⟩
                have hy71 : y245.length = x1_2.length - (1 : Int).toNat := (by rw [Ny245.out, List.length_drop] <;> omega)
                rw [show (x1_2).drop (1 : Int).toNat = y245 from Ny245.out.symm] at hr71
                replace hr71 : Kd.F k45 _ _ A71 y245.length y245 := (by rw [hA71]; exact hr71)
                rw [← hy71, ← hA71, ← hc71] at hcut71
                have HO249 := Aside0.mk (show Kd.V k45 45 _ w.heap.size _ (.slice A71 y245.length c71) y245 from Kd.V_mk (by rw [hy71, hc71]; exact Nat.sub_le_sub_right hroom71 _) hr71)
                have HC249 := Aside0.mk (show y245.length ≤ c71 from by rw [hy71, hc71]; exact Nat.sub_le_sub_right hroom71 _)
                clear hr71 hC71 hroom71 hi071 hsz71 hc71
                have KY71 := Aside0.mk hy71
                have KA71 := Aside0.mk hA71
                clear hy71 hA71
                replace q71 := eq_true q71
                refine start_ (n := 6) (S := fun w' => True) (ds := []) _ (by kernel_rfl) rfl rfl trivial (fun hHeld => ?_)
                generalize w68.drew = w69 at HO_0 HO_1 HO239 HB HO244 HO249 hHeld ⊢
                refine pure_ (i := 0) (N := some 36) (v := ?_) (a' := ?_) #[true, false, false, false, false, false] rfl rfl (by kernel_rfl) (fun _ _ _ h => h) (Or.inl ⟨by rfl, ?_⟩) ?_ ?_
                rotate_left
                ·
                 intro w'
                 go_simp
                 with_reducible rfl
                rotate_left
                ·
                 simp only [Act.put, List.setIfInBounds_toArray, List.set_cons_zero, List.set_cons_succ, i64_w, i32_w]
                 rfl
                refine pure_ (i := 1) (N := some 37) (v := ?_) (a' := ?_) #[true, true, false, false, false, false] rfl rfl (by kernel_rfl) (fun _ _ _ h => h) (Or.inl ⟨by rfl, ?_⟩) ?_ ?_
                rotate_left
                ·
                 intro w'
                 go_simp
                 with_reducible rfl
                rotate_left
                ·
                 simp only [Act.put, List.setIfInBounds_toArray, List.set_cons_zero, List.set_cons_succ, i64_w, i32_w]
                 rfl
                refine pure_ (i := 2) (N := some 38) (v := ?_) (a' := ?_) #[true, true, true, false, false, false] rfl rfl (by kernel_rfl) (fun _ _ _ h => h) (Or.inl ⟨by rfl, ?_⟩) ?_ ?_
                rotate_left
                ·
                 intro w'
                 go_simp
                 with_reducible rfl
                rotate_left
                ·
                 simp only [Act.put, List.setIfInBounds_toArray, List.set_cons_zero, List.set_cons_succ, i64_w, i32_w]
                 rfl
                refine pure_ (i := 3) (N := some 39) (v := ?_) (a' := ?_) #[true, true, true, true, false, false] rfl rfl (by kernel_rfl) (fun _ _ _ h => h) (Or.inl ⟨by rfl, ?_⟩) ?_ ?_
                rotate_left
                ·
                 intro w'
                 go_simp
                 with_reducible rfl
                rotate_left
                ·
                 simp only [Act.put, List.setIfInBounds_toArray, List.set_cons_zero, List.set_cons_succ, i64_w, i32_w]
                 rfl
                refine pure_ (i := 4) (N := some 0) (v := ?_) (a' := ?_) #[true, true, true, true, true, false] rfl rfl (by kernel_rfl) (fun _ _ _ h => h) (Or.inl ⟨by rfl, ?_⟩) ?_ ?_
                rotate_left
                ·
                 intro w'
                 go_simp
                 with_reducible rfl
                rotate_left
                ·
                 simp only [Act.put, List.setIfInBounds_toArray, List.set_cons_zero, List.set_cons_succ, i64_w, i32_w]
                 rfl
                refine pure_ (i := 5) (N := some 1) (v := ?_) (a' := ?_) #[true, true, true, true, true, true] rfl rfl (by kernel_rfl) (fun _ _ _ h => h) (Or.inl ⟨by rfl, ?_⟩) ?_ ?_
                rotate_left
                ·
                 intro w'
                 go_simp
                 with_reducible rfl
                rotate_left
                ·
                 simp only [Act.put, List.setIfInBounds_toArray, List.set_cons_zero, List.set_cons_succ, i64_w, i32_w]
                 rfl
                refine done_ (by kernel_rfl) ?_
                try go_wp2
                go_roundg kj40
                case measure => have := HJ2.out; have := HK2.out; have := HJ10.out; have := HJ16.out; have := HJ40.out; omega
                case rel => exact ⟨(y240), (y245), (y237), H', ⟨by have := HJ2.out; have := HK2.out; have := HJ10.out; have := HJ16.out; have := HJ40.out; omega⟩, ⟨uV HO244.out⟩, ⟨uV HO249.out⟩, ⟨uR HO239.out⟩, ⟨uW HB.out⟩⟩
               ·
                rw [if_neg c61] at H
                have c61b0 : (!(((rd_T45 x0_2 0).f0) == ((rd_T45 x1_2 0).f0)) || (!((((rd_T45 x0_2 0).f1).toList) == (((rd_T45 x1_2 0).f1).toList)) || ((!(((rd_T45 x0_2 0).f2.f0) == ((rd_T45 x1_2 0).f2.f0)) || (!(((rd_T45 x0_2 0).f2.f1) == ((rd_T45 x1_2 0).f2.f1))))))) = false := by simpa using c61
                clear c61
                obtain ⟨c72, H⟩ := gd H
                have c72b0 := eq_true c72
                have c72b1 : decide (1 ≤ (x0_2.length : Int)) = true := decide_eq_true c72
                clear c72
                obtain ⟨y250, hy250⟩ : ∃ y_ : List (S45), y_ = (x0_2.drop 1) := ⟨_, rfl⟩
                replace H : (if 1 ≤ (x1_2.length : Int) then (diff_Of.l0 kj40 y250 (x1_2.drop 1) x4_2) else (none)) = some (r1, r2) := by first | (rw [hy250]; with_reducible exact H) | (have H2_ := (Option.bind_some _ _).symm.trans H; rw [hy250]; with_reducible exact H2_) | (have H2_ := (Option.bind_some _ _).symm.trans H; with_reducible exact H2_) | with_reducible exact H | (rw [hy250]; exact H) | exact H
                have Ny250 := Aside0.mk hy250
                clear hy250
                obtain ⟨c73, H⟩ := gd H
                have c73b0 := eq_true c73
                have c73b1 : decide (1 ≤ (x1_2.length : Int)) = true := decide_eq_true c73
                clear c73
                obtain ⟨y255, hy255⟩ : ∃ y_ : List (S45), y_ = (x1_2.drop 1) := ⟨_, rfl⟩
                replace H : (diff_Of.l0 kj40 y250 y255 x4_2) = some (r1, r2) := by first | (rw [hy255]; with_reducible exact H) | (have H2_ := (Option.bind_some _ _).symm.trans H; rw [hy255]; with_reducible exact H2_) | (have H2_ := (Option.bind_some _ _).symm.trans H; with_reducible exact H2_) | with_reducible exact H | (rw [hy255]; exact H) | exact H
                have Ny255 := Aside0.mk hy255
                clear hy255
                have H' := Aside0.mk H
                clear H
                try go_wp2
                replace HO_0 := Aside0.mk (Kd.V_drew HO_0.out)
                replace HO_1 := Aside0.mk (Kd.V_drew HO_1.out)
                replace HO_4 := Aside0.mk (Kd.R_drew HO_4.out)
                replace HB := Aside0.mk (below_drew1 HB.out)
                obtain ⟨Ao75, co75, eo75⟩ := Kd.V_slice HO_0.out
                (first | subst eo75 | (injection eo75 with f1_ f2_ f3_; have f4_ := f1_.symm; have f5_ := f3_.symm; clear f1_ f2_ f3_; subst f4_; subst f5_))
                have p234 : 0 ≤ (0 : Int) := (by omega)
                have q234 : 0 < (x0_2.length : Int) := od
                obtain ⟨ad234, e234, hx234_0, hx234_1, hx234_2, hx234_3⟩ := at_T45 (Kd.V_reads' HO_0.out).2.2 0 p234 q234
                cases e234
                have qi234 : (0 < x0_2.length) = True := eq_true (by omega)
                (try rw [show ((0 : Int)).toNat = 0 from rfl] at hx234_0)
                (try rw [show 0 * 4 = 0 from rfl] at hx234_0)
                (try rw [Addr.add_zero'] at hx234_0)
                (try rw [show ((0 : Int)).toNat = 0 from rfl] at hx234_1)
                (try rw [show 0 * 4 = 0 from rfl] at hx234_1)
                (try rw [Addr.add_zero'] at hx234_1)
                (try rw [show ((0 : Int)).toNat = 0 from rfl] at hx234_2)
                (try rw [show 0 * 4 = 0 from rfl] at hx234_2)
                (try rw [Addr.add_zero'] at hx234_2)
                (try rw [show ((0 : Int)).toNat = 0 from rfl] at hx234_3)
                (try rw [show 0 * 4 = 0 from rfl] at hx234_3)
                (try rw [Addr.add_zero'] at hx234_3)
                replace p234 := eq_true p234
                replace q234 := eq_true q234
                obtain ⟨Ao76, co76, eo76⟩ := Kd.V_slice HO_1.out
                (first | subst eo76 | (injection eo76 with f1_ f2_ f3_; have f4_ := f1_.symm; have f5_ := f3_.symm; clear f1_ f2_ f3_; subst f4_; subst f5_))
                have p235 : 0 ≤ (0 : Int) := (by omega)
                have q235 : 0 < (x1_2.length : Int) := od
                obtain ⟨ad235, e235, hx235_0, hx235_1, hx235_2, hx235_3⟩ := at_T45 (Kd.V_reads' HO_1.out).2.2 0 p235 q235
                cases e235
                have qi235 : (0 < x1_2.length) = True := eq_true (by omega)
                (try rw [show ((0 : Int)).toNat = 0 from rfl] at hx235_0)
                (try rw [show 0 * 4 = 0 from rfl] at hx235_0)
                (try rw [Addr.add_zero'] at hx235_0)
                (try rw [show ((0 : Int)).toNat = 0 from rfl] at hx235_1)
                (try rw [show 0 * 4 = 0 from rfl] at hx235_1)
                (try rw [Addr.add_zero'] at hx235_1)
                (try rw [show ((0 : Int)).toNat = 0 from rfl] at hx235_2)
                (try rw [show 0 * 4 = 0 from rfl] at hx235_2)
                (try rw [Addr.add_zero'] at hx235_2)
                (try rw [show ((0 : Int)).toNat = 0 from rfl] at hx235_3)
                (try rw [show 0 * 4 = 0 from rfl] at hx235_3)
                (try rw [Addr.add_zero'] at hx235_3)
                replace p235 := eq_true p235
                replace q235 := eq_true q235
                refine start_ (n := 7) (S := fun w' => w'.cell? ad234 = some (.int .i64 ((rd_T45 x0_2 0).f0)) ∧ w'.cell? ⟨ad234.block, ad234.off + 1, none⟩ = some (.string ((rd_T45 x0_2 0).f1)) ∧ w'.cell? ⟨ad234.block, ad234.off + 2, none⟩ = some (.int .i64 ((rd_T45 x0_2 0).f2.f0)) ∧ w'.cell? ⟨ad234.block, ad234.off + 3, none⟩ = some (.bool ((rd_T45 x0_2 0).f2.f1)) ∧ w'.cell? ad235 = some (.int .i64 ((rd_T45 x1_2 0).f0)) ∧ w'.cell? ⟨ad235.block, ad235.off + 1, none⟩ = some (.string ((rd_T45 x1_2 0).f1)) ∧ w'.cell? ⟨ad235.block, ad235.off + 2, none⟩ = some (.int .i64 ((rd_T45 x1_2 0).f2.f0)) ∧ w'.cell? ⟨ad235.block, ad235.off + 3, none⟩ = some (.bool ((rd_T45 x1_2 0).f2.f1))) (ds := []) _ (by kernel_rfl) rfl rfl ⟨hx234_0, hx234_1, hx234_2, hx234_3, hx235_0, hx235_1, hx235_2, hx235_3⟩ (fun hHeld => ?_)
                generalize wc.drew = w74 at HO_0 HO_1 HO_4 HB hx234_0 hx234_1 hx234_2 hx234_3 hx235_0 hx235_1 hx235_2 hx235_3 hHeld ⊢
                refine pure_ (i := 0) (N := some 22) (v := ?_) (a' := ?_) #[true, false, false, false, false, false, false] rfl rfl (by kernel_rfl) (fun _ _ _ h => h) (Or.inl ⟨by rfl, ?_⟩) ?_ ?_
                rotate_left
                ·
                 intro w'
                 go_simp
                 with_reducible rfl
                rotate_left
                ·
                 simp only [Act.put, List.setIfInBounds_toArray, List.set_cons_zero, List.set_cons_succ, i64_w, i32_w]
                 rfl
                refine pure_ (i := 1) (N := some 23) (v := ?_) (a' := ?_) #[true, true, false, false, false, false, false] rfl rfl (by kernel_rfl) (fun _ _ _ h => h) (Or.inl ⟨by rfl, ?_⟩) ?_ ?_
                rotate_left
                ·
                 intro w'
                 go_simp
                 with_reducible rfl
                rotate_left
                ·
                 simp only [Act.put, List.setIfInBounds_toArray, List.set_cons_zero, List.set_cons_succ, i64_w, i32_w]
                 rfl
                refine pure_ (i := 3) (N := some 25) (v := ?_) (a' := ?_) #[true, true, false, true, false, false, false] rfl rfl (by kernel_rfl) (fun _ _ _ h => h) (Or.inl ⟨by rfl, ?_⟩) ?_ ?_
                rotate_left
                ·
                 intro w'
                 go_simp
                 with_reducible rfl
                rotate_left
                ·
                 simp only [Act.put, List.setIfInBounds_toArray, List.set_cons_zero, List.set_cons_succ, i64_w, i32_w]
                 rfl
                refine pure_ (i := 4) (N := some 26) (v := ?_) (a' := ?_) #[true, true, false, true, true, false, false] rfl rfl (by kernel_rfl) (fun _ _ _ h => h) (Or.inl ⟨by rfl, ?_⟩) ?_ ?_
                rotate_left
                ·
                 intro w'
                 go_simp
                 with_reducible rfl
                rotate_left
                ·
                 simp only [Act.put, List.setIfInBounds_toArray, List.set_cons_zero, List.set_cons_succ, i64_w, i32_w]
                 rfl
                refine take_ (i := 2) (N := some 24) (v := ?_) (a' := ?_) #[true, true, true, true, true, false, false] rfl rfl (by kernel_rfl) (fun _ _ _ h => h) (Or.inl ⟨by rfl, ?_⟩) hHeld ?_ ?_
                rotate_left
                ·
                 rintro w' ⟨s0, s1, s2, s3, s4, s5, s6, s7⟩
                 go_simp
                 with_reducible rfl
                rotate_left
                ·
                 simp only [Act.put, List.setIfInBounds_toArray, List.set_cons_zero, List.set_cons_succ, i64_w, i32_w]
                 rfl
                refine take_ (i := 5) (N := some 27) (v := ?_) (a' := ?_) #[true, true, true, true, true, true, false] rfl rfl (by kernel_rfl) (fun _ _ _ h => h) (Or.inl ⟨by rfl, ?_⟩) hHeld ?_ ?_
                rotate_left
                ·
                 rintro w' ⟨s0, s1, s2, s3, s4, s5, s6, s7⟩
                 go_simp
                 with_reducible rfl
                rotate_left
                ·
                 simp only [Act.put, List.setIfInBounds_toArray, List.set_cons_zero, List.set_cons_succ, i64_w, i32_w]
                 rfl
                refine pure_ (i := 6) (N := some 28) (v := ?_) (a' := ?_) #[true, true, true, true, true, true, true] rfl rfl (by kernel_rfl) (fun _ _ _ h => h) (Or.inl ⟨by rfl, ?_⟩) ?_ ?_
                rotate_left
                ·
                 intro w'
                 go_simp
                 with_reducible rfl
                rotate_left
                ·
                 simp only [Act.put, List.setIfInBounds_toArray, List.set_cons_zero, List.set_cons_succ, i64_w, i32_w]
                 rfl
                refine done_ (by kernel_rfl) ?_
                try go_wp2
                replace HO_0 := Aside0.mk (Kd.V_drew HO_0.out)
                replace HO_1 := Aside0.mk (Kd.V_drew HO_1.out)
                replace HO_4 := Aside0.mk (Kd.R_drew HO_4.out)
                replace HB := Aside0.mk (below_drew1 HB.out)
                have q78 : (1 : Int) ≤ ((x0_2.length : Int) : Int) := od
                obtain ⟨i078, hi078, _, hsz78, _⟩ := info_parts info45
                have hroom78 : x0_2.length ≤ co75 := (Kd.V_reads' HO_0.out).2.1
                have hC78 : Kd.F k45 _ _ (some ad234) x0_2.length x0_2 := (Kd.V_at (base := w.heap.size) HO_0.out).2.2
                have hcut78 := cut_from (P := Tryz.prog) 22 45 .i64 Tryz.underlying22 hi078 4 hsz78 (some ad234) x0_2.length co75 1 (by omega) q78
                have hr78 := Kd.F_cut (m := (1 : Int).toNat) (c := co75) hC78 (by omega) hroom78
                obtain ⟨A78, hA78⟩ : ∃ A1, A1 = (if co75 = (1 : Int).toNat then (some ad234) else ((some ad234) : Option Addr).map (·.add ((1 : Int).toNat * 4))) := ⟨_, rfl⟩
                obtain ⟨c78, hc78⟩ : ∃ c1, c1 = co75 - (1 : Int).toNat := ⟨_, rfl⟩
                have hy78 : y250.length = x0_2.length - (1 : Int).toNat := (by rw [Ny250.out, List.length_drop] <;> omega)
                rw [show (x0_2).drop (1 : Int).toNat = y250 from Ny250.out.symm] at hr78
                replace hr78 : Kd.F k45 _ _ A78 y250.length y250 := (by rw [hA78]; exact hr78)
                rw [← hy78, ← hA78, ← hc78] at hcut78
                have HO254 := Aside0.mk (show Kd.V k45 45 _ w.heap.size _ (.slice A78 y250.length c78) y250 from Kd.V_mk (by rw [hy78, hc78]; exact Nat.sub_le_sub_right hroom78 _) hr78)
                have HC254 := Aside0.mk (show y250.length ≤ c78 from by rw [hy78, hc78]; exact Nat.sub_le_sub_right hroom78 _)
                clear hr78 hC78 hroom78 hi078 hsz78 hc78
                have KY78 := Aside0.mk hy78
                have KA78 := Aside0.mk hA78
                clear hy78 hA78
                replace q78 := eq_true q78
                have q79 : (1 : Int) ≤ ((x1_2.length : Int) : Int) := od
                obtain ⟨i079, hi079, _, hsz79, _⟩ := info_parts info45
                have hroom79 : x1_2.length ≤ co76 := (Kd.V_reads' HO_1.out).2.1
                have hC79 : Kd.F k45 _ _ (some ad235) x1_2.length x1_2 := (Kd.V_at (base := w.heap.size) HO_1.out).2.2
                have hcut79 := cut_from (P := Tryz.prog) 22 45 .i64 Tryz.underlying22 hi079 4 hsz79 (some ad235) x1_2.length co76 1 (by omega) q79
                have hr79 := Kd.F_cut (m := (1 : Int).toNat) (c := co76) hC79 (by omega) hroom79
                obtain ⟨A79, hA79⟩ : ∃ A1, A1 = (if co76 = (1 : Int).toNat then (some ad235) else ((some ad235) : Option Addr).map (·.add ((1 : Int).toNat * 4))) := ⟨_, rfl⟩
                obtain ⟨c79, hc79⟩ : ∃ c1, c1 = co76 - (1 : Int).toNat := ⟨_, rfl⟩
                have hy79 : y255.length = x1_2.length - (1 : Int).toNat := (by rw [Ny255.out, List.length_drop] <;> omega)
                rw [show (x1_2).drop (1 : Int).toNat = y255 from Ny255.out.symm] at hr79
                replace hr79 : Kd.F k45 _ _ A79 y255.length y255 := (by rw [hA79]; exact hr79)
                rw [← hy79, ← hA79, ← hc79] at hcut79
                have HO259 := Aside0.mk (show Kd.V k45 45 _ w.heap.size _ (.slice A79 y255.length c79) y255 from Kd.V_mk (by rw [hy79, hc79]; exact Nat.sub_le_sub_right hroom79 _) hr79)
                have HC259 := Aside0.mk (show y255.length ≤ c79 from by rw [hy79, hc79]; exact Nat.sub_le_sub_right hroom79 _)
                clear hr79 hC79 hroom79 hi079 hsz79 hc79
                have KY79 := Aside0.mk hy79
                have KA79 := Aside0.mk hA79
                clear hy79 hA79
                replace q79 := eq_true q79
                refine start_ (n := 6) (S := fun w' => True) (ds := []) _ (by kernel_rfl) rfl rfl trivial (fun hHeld => ?_)
                generalize w74.drew = w77 at HO_0 HO_1 HO_4 HB HO254 HO259 hHeld ⊢
                refine pure_ (i := 0) (N := some 36) (v := ?_) (a' := ?_) #[true, false, false, false, false, false] rfl rfl (by kernel_rfl) (fun _ _ _ h => h) (Or.inl ⟨by rfl, ?_⟩) ?_ ?_
                rotate_left
                ·
                 intro w'
                 go_simp
                 with_reducible rfl
                rotate_left
                ·
                 simp only [Act.put, List.setIfInBounds_toArray, List.set_cons_zero, List.set_cons_succ, i64_w, i32_w]
                 rfl
                refine pure_ (i := 1) (N := some 37) (v := ?_) (a' := ?_) #[true, true, false, false, false, false] rfl rfl (by kernel_rfl) (fun _ _ _ h => h) (Or.inl ⟨by rfl, ?_⟩) ?_ ?_
                rotate_left
                ·
                 intro w'
                 go_simp
                 with_reducible rfl
                rotate_left
                ·
                 simp only [Act.put, List.setIfInBounds_toArray, List.set_cons_zero, List.set_cons_succ, i64_w, i32_w]
                 rfl
                refine pure_ (i := 2) (N := some 38) (v := ?_) (a' := ?_) #[true, true, true, false, false, false] rfl rfl (by kernel_rfl) (fun _ _ _ h => h) (Or.inl ⟨by rfl, ?_⟩) ?_ ?_
                rotate_left
                ·
                 intro w'
                 go_simp
                 with_reducible rfl
                rotate_left
                ·
                 simp only [Act.put, List.setIfInBounds_toArray, List.set_cons_zero, List.set_cons_succ, i64_w, i32_w]
                 rfl
                refine pure_ (i := 3) (N := some 39) (v := ?_) (a' := ?_) #[true, true, true, true, false, false] rfl rfl (by kernel_rfl) (fun _ _ _ h => h) (Or.inl ⟨by rfl, ?_⟩) ?_ ?_
                rotate_left
                ·
                 intro w'
                 go_simp
                 with_reducible rfl
                rotate_left
                ·
                 simp only [Act.put, List.setIfInBounds_toArray, List.set_cons_zero, List.set_cons_succ, i64_w, i32_w]
                 rfl
                refine pure_ (i := 4) (N := some 0) (v := ?_) (a' := ?_) #[true, true, true, true, true, false] rfl rfl (by kernel_rfl) (fun _ _ _ h => h) (Or.inl ⟨by rfl, ?_⟩) ?_ ?_
                rotate_left
                ·
                 intro w'
                 go_simp
                 with_reducible rfl
                rotate_left
                ·
                 simp only [Act.put, List.setIfInBounds_toArray, List.set_cons_zero, List.set_cons_succ, i64_w, i32_w]
                 rfl
                refine pure_ (i := 5) (N := some 1) (v := ?_) (a' := ?_) #[true, true, true, true, true, true] rfl rfl (by kernel_rfl) (fun _ _ _ h => h) (Or.inl ⟨by rfl, ?_⟩) ?_ ?_
                rotate_left
                ·
                 intro w'
                 go_simp
                 with_reducible rfl
                rotate_left
                ·
                 simp only [Act.put, List.setIfInBounds_toArray, List.set_cons_zero, List.set_cons_succ, i64_w, i32_w]
                 rfl
                refine done_ (by kernel_rfl) ?_
                try go_wp2
                go_roundg kj40
                case measure => have := HJ2.out; have := HK2.out; have := HJ10.out; have := HJ16.out; have := HJ40.out; omega
                case rel => exact ⟨(y250), (y255), (x4_2), H', ⟨by have := HJ2.out; have := HK2.out; have := HJ10.out; have := HJ16.out; have := HJ40.out; omega⟩, ⟨uV HO254.out⟩, ⟨uV HO259.out⟩, ⟨uR HO_4.out⟩, ⟨uW HB.out⟩⟩
        ·
         replace c16 := Bool.eq_false_iff.mpr c16
         subst c16
         rw [if_neg (show ¬ (false = true) by decide)] at H
         simp only [Option.some.injEq, Prod.mk.injEq] at H
         obtain ⟨rfl, rfl⟩ := H
         go_wp2
         go_ret2
         exact ⟨_, re_, uR HO_4.out, uW HB.out⟩
end Go.Proofs.YtgcbejidponoaaaGreatDoor.X
