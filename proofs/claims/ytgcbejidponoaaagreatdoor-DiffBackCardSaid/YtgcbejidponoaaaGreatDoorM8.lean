/- Printed by a program of this session's own: what functions of the program compute, and that the machine computes it. No condition of its own. -/
import Derived.Test.YtgcbejidponoaaaGreatDoorM3
import Derived.Test.YtgcbejidponoaaaGreatDoorM4
import Derived.Test.YtgcbejidponoaaaGreatDoorM6
import Derived.Test.YtgcbejidponoaaaGreatDoorM7
namespace Go.Proofs.YtgcbejidponoaaaGreatDoor.X
open Go.RowKit Go.Proofs.YtgcbejidponoaaaGreatDoorW.PrintWords Go.Proofs.YtgcbejidponoaaaGreatDoorW.PrintLast Go.Proofs.YtgcbejidponoaaaGreatDoorW.PrintMore
attribute [local go_sem] max2_int min2_int max_two min_two max_three min_three max_four min_four
set_option linter.unusedVariables false
set_option linter.unusedSimpArgs false
set_option maxHeartbeats 8000000
set_option maxRecDepth 100000
attribute [local go_sem high] eqA45
mutual
def diff_Of.j0 : Nat → List (S45) → List (S45) → List (S48) → Bool → Option ((List (S48)) × Int)
 | 0, _, _, _, _ => none
 | k + 1, x0, x1, x4, x13 => if x13 = true then (some (([] : List (S48)), 9)) else (diff_Of.l0 k x0 x1 x4)
def diff_Of.l0 : Nat → List (S45) → List (S45) → List (S48) → Option ((List (S48)) × Int)
 | 0, _, _, _ => none
 | k + 1, x0, x1, x4 => if (x0.length : Int) > 0 then (diff_Of.j2 k x0 x1 x4 true) else (diff_Of.j2 k x0 x1 x4 (decide ((x1.length : Int) > 0)))
def diff_Of.j2 : Nat → List (S45) → List (S45) → List (S48) → Bool → Option ((List (S48)) × Int)
 | 0, _, _, _, _ => none
 | k + 1, x0, x1, x4, x21 => if x21 = true then (if (x1.length : Int) = 0 then (diff_Of.j3 k x0 x1 x4 true) else (if (x0.length : Int) > 0 then (if 0 < (x0.length : Int) then (if 0 < (x1.length : Int) then ((row_Before.f k ((rd_T45 x0 0).f0) ((rd_T45 x0 0).f1) ((rd_T45 x0 0).f2.f0) ((rd_T45 x0 0).f2.f1) ((rd_T45 x1 0).f0) ((rd_T45 x1 0).f1) ((rd_T45 x1 0).f2.f0) ((rd_T45 x1 0).f2.f1)).bind fun t342 => (diff_Of.j3 k x0 x1 x4 t342)) else (none)) else (none)) else (diff_Of.j3 k x0 x1 x4 false))) else (some (x4, 0))
def diff_Of.j3 : Nat → List (S45) → List (S45) → List (S48) → Bool → Option ((List (S48)) × Int)
 | 0, _, _, _, _ => none
 | k + 1, x0, x1, x4, x40 => if x40 = true then (if 0 < (x0.length : Int) then ((diff_gone.f ((rd_T45 x0 0).f0) ((rd_T45 x0 0).f1) ((rd_T45 x0 0).f2.f0) ((rd_T45 x0 0).f2.f1)).bind fun bt344 => (if x4.length < 2932031007402 then (if 1 ≤ (x0.length : Int) then (diff_Of.l0 k (x0.drop 1) x1 (x4 ++ [(⟨(⟨bt344.1, bt344.2.1, (⟨bt344.2.2.1, bt344.2.2.2.1⟩ : S43)⟩ : S45), bt344.2.2.2.2⟩ : S48)])) else (none)) else (none))) else (none)) else (if (x0.length : Int) = 0 then (diff_Of.j4 k x0 x1 x4 true) else (if 0 < (x1.length : Int) then (if 0 < (x0.length : Int) then ((row_Before.f k ((rd_T45 x1 0).f0) ((rd_T45 x1 0).f1) ((rd_T45 x1 0).f2.f0) ((rd_T45 x1 0).f2.f1) ((rd_T45 x0 0).f0) ((rd_T45 x0 0).f1) ((rd_T45 x0 0).f2.f0) ((rd_T45 x0 0).f2.f1)).bind fun t359 => (diff_Of.j4 k x0 x1 x4 t359)) else (none)) else (none)))
def diff_Of.j4 : Nat → List (S45) → List (S45) → List (S48) → Bool → Option ((List (S48)) × Int)
 | 0, _, _, _, _ => none
 | k + 1, x0, x1, x4, x67 => if x67 = true then (if 0 < (x1.length : Int) then (if x4.length < 2932031007402 then (if 1 ≤ (x1.length : Int) then (diff_Of.l0 k x0 (x1.drop 1) (x4 ++ [(⟨(⟨(rd_T45 x1 0).f0, (rd_T45 x1 0).f1, (⟨(rd_T45 x1 0).f2.f0, (rd_T45 x1 0).f2.f1⟩ : S43)⟩ : S45), false⟩ : S48)])) else (none)) else (none)) else (none)) else (if 0 < (x0.length : Int) then (if 0 < (x1.length : Int) then (if (!(((rd_T45 x0 0).f0) == ((rd_T45 x1 0).f0)) || (!((((rd_T45 x0 0).f1).toList) == (((rd_T45 x1 0).f1).toList)) || ((!(((rd_T45 x0 0).f2.f0) == ((rd_T45 x1 0).f2.f0)) || (!(((rd_T45 x0 0).f2.f1) == ((rd_T45 x1 0).f2.f1))))))) = true then (if x4.length < 2932031007402 then (if 1 ≤ (x0.length : Int) then (if 1 ≤ (x1.length : Int) then (diff_Of.l0 k (x0.drop 1) (x1.drop 1) (x4 ++ [(⟨(⟨(rd_T45 x1 0).f0, (rd_T45 x1 0).f1, (⟨(rd_T45 x1 0).f2.f0, (rd_T45 x1 0).f2.f1⟩ : S43)⟩ : S45), false⟩ : S48)])) else (none)) else (none)) else (none)) else (if 1 ≤ (x0.length : Int) then (if 1 ≤ (x1.length : Int) then (diff_Of.l0 k (x0.drop 1) (x1.drop 1) x4) else (none)) else (none))) else (none)) else (none))
end
def diff_Of.f (k : Nat) (l0 : List (S45)) (l1 : List (S45)) : Option ((List (S48)) × Int) := (row_Right.f k l0).bind fun t338 => (if t338 = true then ((row_Right.f k l1).bind fun t339 => (diff_Of.j0 k l0 l1 ([] : List (S48)) (!t339))) else (diff_Of.j0 k l0 l1 ([] : List (S48)) true))
theorem diff_Of.mono_l : ∀ k, (∀ y0 y1 y2 y3, LeC (diff_Of.j0 k y0 y1 y2 y3) (diff_Of.j0 (k + 1) y0 y1 y2 y3)) ∧ (∀ y0 y1 y2, LeC (diff_Of.l0 k y0 y1 y2) (diff_Of.l0 (k + 1) y0 y1 y2)) ∧ (∀ y0 y1 y2 y3, LeC (diff_Of.j2 k y0 y1 y2 y3) (diff_Of.j2 (k + 1) y0 y1 y2 y3)) ∧ (∀ y0 y1 y2 y3, LeC (diff_Of.j3 k y0 y1 y2 y3) (diff_Of.j3 (k + 1) y0 y1 y2 y3)) ∧ (∀ y0 y1 y2 y3, LeC (diff_Of.j4 k y0 y1 y2 y3) (diff_Of.j4 (k + 1) y0 y1 y2 y3))
 | 0 => ⟨fun _ _ _ _ => ⟨fun r h => by simp [diff_Of.j0] at h⟩, fun _ _ _ => ⟨fun r h => by simp [diff_Of.l0] at h⟩, fun _ _ _ _ => ⟨fun r h => by simp [diff_Of.j2] at h⟩, fun _ _ _ _ => ⟨fun r h => by simp [diff_Of.j3] at h⟩, fun _ _ _ _ => ⟨fun r h => by simp [diff_Of.j4] at h⟩⟩
 | k + 1 => by obtain ⟨ih0, ih1, ih2, ih3, ih4⟩ := diff_Of.mono_l k; exact ⟨fun _ _ _ _ => by unfold diff_Of.j0; exact lm, fun _ _ _ => by unfold diff_Of.l0; exact lm, fun _ _ _ _ => by unfold diff_Of.j2; exact lm, fun _ _ _ _ => by unfold diff_Of.j3; exact lm, fun _ _ _ _ => by unfold diff_Of.j4; exact lm⟩
theorem diff_Of.mono : ∀ a0 a1 k, LeO (diff_Of.f k a0 a1) (diff_Of.f (k + 1) a0 a1) := by
 intro a0 a1 k
 obtain ⟨ih0, ih1, ih2, ih3, ih4⟩ := diff_Of.mono_l k
 unfold diff_Of.f
 exact lo
instance diff_Of.mI {a0 a1 k} : LeC (diff_Of.f k a0 a1) (diff_Of.f (k + 1) a0 a1) := ⟨diff_Of.mono _ _ _⟩
def diff_Of.T7 : Bool × List (List Nat × List Nat) := (true, [([], []), ([0], [0]), ([1], [1]), ([2], [2]), ([3], [3]), ([4, 3], [3, 4]), ([5, 3], [3, 5]), ([6, 3, 3], [3, 6]), ([7], [7]), ([8, 7], [7, 8]), ([9, 7], [7, 9]), ([7], [7]), ([11, 7], [7, 11]), ([12, 7], [7, 12]), ([10, 13, 7, 7], [7, 10, 13]), ([7, 14, 3], [3, 7, 14]), ([3, 15], [3, 15]), ([16, 14], [16])])
def diff_Of.B7 : List Nat := [0, 1, 3, 7, 15, 31, 63, 127, 255, 511, 1023, 255, 2303, 6399, 16383, 32767, 65535, 131071]
theorem diff_Of.tab7 : rtab .any (opsOf Tryz.f10 7) = diff_Of.T7 := by kernel_rfl
theorem diff_Of.bits7 : waitsOk diff_Of.T7.2 diff_Of.B7 = true := by kernel_rfl
def diff_Of.T10 : Bool × List (List Nat × List Nat) := (true, [([], []), ([0], [0]), ([1], [1]), ([2], [2]), ([3], [3]), ([4, 3], [3, 4]), ([5, 3], [3, 5]), ([3], [3]), ([7, 3], [3, 7]), ([8, 3], [3, 8]), ([6, 9, 3, 3], [3, 6, 9]), ([3, 10], [3, 10]), ([11, 10], [11])])
def diff_Of.B10 : List Nat := [0, 1, 3, 7, 15, 31, 63, 15, 143, 399, 1023, 2047, 4095]
theorem diff_Of.tab10 : rtab .any (opsOf Tryz.f10 10) = diff_Of.T10 := by kernel_rfl
theorem diff_Of.bits10 : waitsOk diff_Of.T10.2 diff_Of.B10 = true := by kernel_rfl
theorem diff_Of.calls (k : Nat) (P0_ : Nat → Prop) (A0 : Option Addr) (c0 : Nat) (l0 : List (S45)) (P1_ : Nat → Prop) (A1 : Option Addr) (c1 : Nat) (l1 : List (S45)) (r1 : List (S48)) (r2 : Int) (w : World) (hs0 : Kd.V k45 45 w w.heap.size (fun k_ => P0_ k_) (.slice A0 l0.length c0) l0) (hs1 : Kd.V k45 45 w w.heap.size (fun k_ => P1_ k_) (.slice A1 l1.length c1) l1) (hL : LD w) (h : diff_Of.f k l0 l1 = some (r1, r2)) :
 Calls Tryz.prog 10 #[.slice A0 l0.length c0, .slice A1 l1.length c1] w fun e w' => ∃ v0_ : Value, e = .returned (.tuple #[v0_, .int .i64 r2]) ∧ Kd.R k48 48 w' w.heap.size (fun k_ => (w.heap.size ≤ k_)) v0_ r1 ∧ Below w.heap.size w w' := by
 have HL0 := Aside0.mk hL
 clear hL
 have hu45 := Tryz.underlying45
 have hu48 := Tryz.underlying48
 have HO0 := Aside0.mk (show Kd.V k45 45 w w.heap.size (fun k_ => ((P0_ k_ ∨ P1_ k_) ∨ w.heap.size ≤ k_)) (.slice A0 l0.length c0) l0 from Kd.V_mono hs0 (fun k_ hk => .inl (.inl hk)))
 have HO1 := Aside0.mk (show Kd.V k45 45 w w.heap.size (fun k_ => ((P0_ k_ ∨ P1_ k_) ∨ w.heap.size ≤ k_)) (.slice A1 l1.length c1) l1 from Kd.V_mono hs1 (fun k_ hk => .inl (.inr hk)))
 have HB := Aside0.mk (Below.refl w.heap.size w)
 have H : ((row_Right.f k l0).bind fun t338 => (if t338 = true then ((row_Right.f k l1).bind fun t339 => (diff_Of.j0 k l0 l1 ([] : List (S48)) (!t339))) else (diff_Of.j0 k l0 l1 ([] : List (S48)) true))) = some (r1, r2) := h
 clear h
 have HC3 := Aside0.mk H
 clear H
 go_enter Tryz.func10, Tryz.ntmps10
 go_upto_region 1 with (fail)
 go_cut [13] (fun v13 wc => ∃ (kq : Nat) (x13_2 : Bool), v13 = .bool x13_2 ∧ Aside0 (diff_Of.j0 kq l0 l1 ([] : List (S48)) x13_2 = some (r1, r2)) ∧ Aside0 (kq ≤ k) ∧ Aside0 (Kd.V k45 45 wc w.heap.size (fun k_ => ((P0_ k_ ∨ P1_ k_) ∨ w.heap.size ≤ k_) ∧ some k_ ≠ ((.slice none 0 0) : Value).ownBlock) (.slice A0 l0.length c0) l0) ∧ Aside0 (Kd.V k45 45 wc w.heap.size (fun k_ => ((P0_ k_ ∨ P1_ k_) ∨ w.heap.size ≤ k_) ∧ some k_ ≠ ((.slice none 0 0) : Value).ownBlock) (.slice A1 l1.length c1) l1) ∧ Aside0 (Kd.R k48 48 wc w.heap.size (fun k_ => (w.heap.size ≤ k_)) (.slice none 0 0) ([] : List (S48))) ∧ Aside0 (Below w.heap.size w wc))
 case first =>
  have H := HC3.out
  clear HC3
  obtain ⟨t338, A4, H⟩ := bs H
  try dsimp only at H
  by_cases c5 : t338 = true
  ·
   subst c5
   rw [if_pos rfl] at H
   obtain ⟨t339, A6, H⟩ := bs H
   try dsimp only at H
   have H' := Aside0.mk H
   clear H
   go_wp2_with (first | (refine gL (some 7) rfl Tryz.func24 #[.slice A0 l0.length c0] ?_; (with_reducible refine (row_Right.calls (hL := ld) k _ _ l0 true _ ?side1 ?side2 A4.out).mono ?_); (case side1 => exact uC <| (Kd.V_reads' HO0.out).2.2); (case side2 => exact (Kd.V_reads' HO0.out).2.1); rintro e w7 ⟨rfl, hb⟩; refine ⟨_, rfl, ?_⟩; replace HO0 := cV HO0 hb; replace HO1 := cV HO1 hb; replace HB := cW HB hb; (try clear hb)) | (go_at_call 24; (with_reducible refine (row_Right.calls (hL := ld) k _ _ l1 t339 _ ?side1 ?side2 A6.out).mono ?_); (case side1 => exact uC <| (Kd.V_reads' HO1.out).2.2); (case side2 => exact (Kd.V_reads' HO1.out).2.1); rintro e w8 ⟨rfl, hb⟩; replace HO0 := cV HO0 hb; replace HO1 := cV HO1 hb; replace HB := cW HB hb; (try clear hb)))
   go_meet
   case rel => exact ⟨_, (!t339), rs_, H', ⟨by first | omega | exact Nat.le_refl _⟩, ⟨by exact uV <| Kd.V_mono HO0.out (fun _ hk => ⟨hk, (by simp [Value.ownBlock])⟩)⟩, ⟨by exact uV <| Kd.V_mono HO1.out (fun _ hk => ⟨hk, (by simp [Value.ownBlock])⟩)⟩, ⟨nl_⟩, ⟨uW HB.out⟩⟩
  ·
   replace c5 := Bool.eq_false_iff.mpr c5
   subst c5
   rw [if_neg (show ¬ (false = true) by decide)] at H
   have H' := Aside0.mk H
   clear H
   go_wp2_with (first | (refine gL (some 7) rfl Tryz.func24 #[.slice A0 l0.length c0] ?_; (with_reducible refine (row_Right.calls (hL := ld) k _ _ l0 false _ ?side1 ?side2 A4.out).mono ?_); (case side1 => exact uC <| (Kd.V_reads' HO0.out).2.2); (case side2 => exact (Kd.V_reads' HO0.out).2.1); rintro e w9 ⟨rfl, hb⟩; refine ⟨_, rfl, ?_⟩; replace HO0 := cV HO0 hb; replace HO1 := cV HO1 hb; replace HB := cW HB hb; (try clear hb)))
   go_meet
   case rel => exact ⟨_, (true), rs_, H', ⟨by first | omega | exact Nat.le_refl _⟩, ⟨by exact uV <| Kd.V_mono HO0.out (fun _ hk => ⟨hk, (by simp [Value.ownBlock])⟩)⟩, ⟨by exact uV <| Kd.V_mono HO1.out (fun _ hk => ⟨hk, (by simp [Value.ownBlock])⟩)⟩, ⟨nl_⟩, ⟨uW HB.out⟩⟩
 case rest =>
  clear HC3
  try clear c1
  try clear c2
  try clear p2
  try clear c5
  obtain ⟨kq, x13_2, rfl, HA, HJ2, HO_0, HO_1, HO_4, HB⟩ := hcut
  cases kq with
  | zero => exact absurd HA.out (by simp [diff_Of.j0])
  | succ kj2 =>
   have H := HA.out
   clear HA
   simp only [diff_Of.j0] at H
   by_cases c10 : x13_2 = true
   ·
    subst c10
    rw [if_pos rfl] at H
    simp only [Option.some.injEq, Prod.mk.injEq] at H
    obtain ⟨rfl, rfl⟩ := H
    go_wp2
    go_ret2
    exact ⟨_, re_, nl_, uW HB.out⟩
   ·
    replace c10 := Bool.eq_false_iff.mpr c10
    subst c10
    rw [if_neg (show ¬ (false = true) by decide)] at H
    have H' := Aside0.mk H
    clear H
    go_wp2
    go_loopg [0, 1, 4] kj2 (fun kq v0 v1 v4 w' => ∃ (x0_2 : List (S45)) (x1_2 : List (S45)) (x4_2 : List (S48)), Aside0 (diff_Of.l0 kq x0_2 x1_2 x4_2 = some (r1, r2)) ∧ Aside0 (kq ≤ kj2) ∧ Aside0 (Kd.V k45 45 w' w.heap.size (fun k_ => ((P0_ k_ ∨ P1_ k_) ∨ w.heap.size ≤ k_) ∧ some k_ ≠ (v4 : Value).ownBlock) v0 x0_2) ∧ Aside0 (Kd.V k45 45 w' w.heap.size (fun k_ => ((P0_ k_ ∨ P1_ k_) ∨ w.heap.size ≤ k_) ∧ some k_ ≠ (v4 : Value).ownBlock) v1 x1_2) ∧ Aside0 (Kd.R k48 48 w' w.heap.size (fun k_ => (w.heap.size ≤ k_)) v4 x4_2) ∧ Aside0 (Below w.heap.size w w'))
    case atStart => exact ⟨(l0), (l1), (([] : List (S48))), H', ⟨Nat.le_refl _⟩, ⟨uV HO_0.out⟩, ⟨uV HO_1.out⟩, ⟨uR HO_4.out⟩, ⟨uW HB.out⟩⟩
    case round =>
     clear H'
     try clear c1
     try clear c2
     try clear p2
     try clear c5
     try clear c10
     try clear p2
     obtain ⟨x0_2, x1_2, x4_2, HA, HK2, HO_0, HO_1, HO_4, HB⟩ := hrel
     cases gk with
     | zero => exact absurd HA.out (by simp [diff_Of.l0])
     | succ k2 =>
      have H := HA.out
      clear HA
      simp only [diff_Of.l0] at H
      have HC11 := Aside0.mk H
      clear H
      go_upto_region 3 with (fail)
      go_cut [21] (fun v21 wc => ∃ (kq : Nat) (x21_10 : Bool), v21 = .bool x21_10 ∧ Aside0 (diff_Of.j2 kq x0_2 x1_2 x4_2 x21_10 = some (r1, r2)) ∧ Aside0 (kq ≤ k2) ∧ Aside0 (Kd.V k45 45 wc w.heap.size (fun k_ => ((P0_ k_ ∨ P1_ k_) ∨ w.heap.size ≤ k_) ∧ some k_ ≠ (u4 : Value).ownBlock) u0 x0_2) ∧ Aside0 (Kd.V k45 45 wc w.heap.size (fun k_ => ((P0_ k_ ∨ P1_ k_) ∨ w.heap.size ≤ k_) ∧ some k_ ≠ (u4 : Value).ownBlock) u1 x1_2) ∧ Aside0 (Kd.R k48 48 wc w.heap.size (fun k_ => (w.heap.size ≤ k_)) u4 x4_2) ∧ Aside0 (Below w.heap.size w wc))
      case first =>
       have H := HC11.out
       clear HC11
       by_cases c12 : (x0_2.length : Int) > 0
       ·
        rw [if_pos c12] at H
        have c12b0 : decide (0 < (x0_2.length : Int)) = true := decide_eq_true c12
        have c12b1 : decide (0 < x0_2.length) = true := decide_eq_true (by omega)
        clear c12
        (first | rw [c12b0] | (simp only [i64_w, i32_w]; rw [c12b0]) | skip)
        have H' := Aside0.mk H
        clear H
        obtain ⟨Ao13, co13, eo13⟩ := Kd.V_slice HO_0.out
        subst eo13
        go_wp2
        go_meet
        case rel => exact ⟨_, (true), rs_, H', ⟨by have := HJ2.out; have := HK2.out; first | omega | exact Nat.le_refl _⟩, ⟨uV HO_0.out⟩, ⟨uV HO_1.out⟩, ⟨uR HO_4.out⟩, ⟨uW HB.out⟩⟩
       ·
        rw [if_neg c12] at H
        have c12b0 : decide (0 < (x0_2.length : Int)) = false := decide_eq_false c12
        have c12b1 : decide (0 < x0_2.length) = false := decide_eq_false (by omega)
        clear c12
        (first | rw [c12b0] | (simp only [i64_w, i32_w]; rw [c12b0]) | skip)
        have H' := Aside0.mk H
        clear H
        obtain ⟨Ao14, co14, eo14⟩ := Kd.V_slice HO_0.out
        subst eo14
        obtain ⟨Ao15, co15, eo15⟩ := Kd.V_slice HO_1.out
        subst eo15
        go_wp2
        go_meet
        case rel => exact ⟨_, (decide ((x1_2.length : Int) > 0)), rs_, H', ⟨by have := HJ2.out; have := HK2.out; first | omega | exact Nat.le_refl _⟩, ⟨uV HO_0.out⟩, ⟨uV HO_1.out⟩, ⟨uR HO_4.out⟩, ⟨uW HB.out⟩⟩
      case rest =>
       clear HC11
       try clear c1
       try clear c2
       try clear p2
       try clear c5
       try clear c10
       try clear c12
       try clear c12b0
       try clear c12b1
       try clear p2
       obtain ⟨kq, x21_10, rfl, HA, HJ10, HO_0, HO_1, HO_4, HB⟩ := hcut
       cases kq with
       | zero => exact absurd HA.out (by simp [diff_Of.j2])
       | succ kj10 =>
        have H := HA.out
        clear HA
        simp only [diff_Of.j2] at H
        by_cases c16 : x21_10 = true
        ·
         subst c16
         rw [if_pos rfl] at H
         have HC17 := Aside0.mk H
         clear H
         go_upto_region 7 with (fail)
         go_cut [40] (fun v40 wc => ∃ (kq : Nat) (x40_16 : Bool), v40 = .bool x40_16 ∧ Aside0 (diff_Of.j3 kq x0_2 x1_2 x4_2 x40_16 = some (r1, r2)) ∧ Aside0 (kq ≤ kj10) ∧ Aside0 (Kd.V k45 45 wc w.heap.size (fun k_ => ((P0_ k_ ∨ P1_ k_) ∨ w.heap.size ≤ k_) ∧ some k_ ≠ (u4 : Value).ownBlock) u0 x0_2) ∧ Aside0 (Kd.V k45 45 wc w.heap.size (fun k_ => ((P0_ k_ ∨ P1_ k_) ∨ w.heap.size ≤ k_) ∧ some k_ ≠ (u4 : Value).ownBlock) u1 x1_2) ∧ Aside0 (Kd.R k48 48 wc w.heap.size (fun k_ => (w.heap.size ≤ k_)) u4 x4_2) ∧ Aside0 (Below w.heap.size w wc))
         case first =>
          have H := HC17.out
          clear HC17
          by_cases c18 : (x1_2.length : Int) = 0
          ·
           rw [if_pos c18] at H
           have c18b0 : ((x1_2.length : Int) == 0) = true := beq_iff_eq.mpr c18
           have c18b1 : ((x1_2.length : Int) != 0) = false := bne_eq_false_iff_eq.mpr c18
           clear c18
           (first | rw [c18b0] | (simp only [i64_w, i32_w]; rw [c18b0]) | skip)
           have H' := Aside0.mk H
           clear H
           try go_wp2
           replace HO_0 := Aside0.mk (Kd.V_drew HO_0.out)
           replace HO_1 := Aside0.mk (Kd.V_drew HO_1.out)
           replace HO_4 := Aside0.mk (Kd.R_drew HO_4.out)
           replace HB := Aside0.mk (below_drew1 HB.out)
           obtain ⟨Ao20, co20, eo20⟩ := Kd.V_slice HO_1.out
           (first | subst eo20 | (injection eo20 with f1_ f2_ f3_; have f4_ := f1_.symm; have f5_ := f3_.symm; clear f1_ f2_ f3_; subst f4_; subst f5_))
           refine start_ (n := 18) (S := fun w' => True) (ds := []) _ (by kernel_rfl) rfl rfl trivial (fun hHeld => ?_); refine with_tabW diff_Of.tab7 diff_Of.bits7 (fun HT_ HW_ => ?_)
           generalize wc.drew = w19 at HO_0 HO_1 HO_4 HB hHeld ⊢
           refine p1 0 (some 41) ?_
           refine p1 1 (some 42) ?_
           refine p1 2 (some 43) ?_
           refine p1 3 (some 44) ?_
           refine p2 4 (some 45) ?_
           refine p2 5 (some 46) ?_
           refine p2 6 (some 47) ?_
           refine p2 7 (some 48) ?_
           refine p2 8 (some 49) ?_
           refine p2 9 (some 50) ?_
           refine p2 10 (some 51) ?_
           refine p2 11 (some 52) ?_
           refine p2 12 (some 53) ?_
           refine p2 13 (some 54) ?_
           refine p2 14 (some 55) ?_
           refine p2 15 (some 56) ?_
           refine p1 16 (some 57) ?_
           refine p1 17 (some 40) ?_
           refine done_ (done_of HT_.out (by kernel_rfl)) ?_
           try go_wp2
           go_meet
           case rel => exact ⟨_, (true), rs_, H', ⟨by have := HJ2.out; have := HK2.out; have := HJ10.out; first | omega | exact Nat.le_refl _⟩, ⟨uV HO_0.out⟩, ⟨uV HO_1.out⟩, ⟨uR HO_4.out⟩, ⟨uW HB.out⟩⟩
          ·
           rw [if_neg c18] at H
           have c18b0 : ((x1_2.length : Int) == 0) = false := beq_eq_false_iff_ne.mpr c18
           have c18b1 : ((x1_2.length : Int) != 0) = true := bne_iff_ne.mpr c18
           have c18b2 : ¬ (x1_2 = []) := fun h_ => c18 (by rw [h_]; rfl)
           (first | rw [c18b0] | (simp only [i64_w, i32_w]; rw [c18b0]) | skip)
           by_cases c21 : (x0_2.length : Int) > 0
           ·
            rw [if_pos c21] at H
            have c21b0 : decide (0 < (x0_2.length : Int)) = true := decide_eq_true c21
            have c21b1 : decide (0 < x0_2.length) = true := decide_eq_true (by omega)
            clear c21
            obtain ⟨c22, H⟩ := gd H
            have c22b0 : decide (0 < (x0_2.length : Int)) = true := decide_eq_true c22
            have c22b1 : decide (0 < x0_2.length) = true := decide_eq_true (by omega)
            clear c22
            obtain ⟨c23, H⟩ := gd H
            have c23b0 : decide (0 < (x1_2.length : Int)) = true := decide_eq_true c23
            have c23b1 : decide (0 < x1_2.length) = true := decide_eq_true (by omega)
            clear c23
            obtain ⟨t342, A24, H⟩ := bs H
            try dsimp only at H
            have H' := Aside0.mk H
            clear H
            try go_wp2
            replace HO_0 := Aside0.mk (Kd.V_drew HO_0.out)
            replace HO_1 := Aside0.mk (Kd.V_drew HO_1.out)
            replace HO_4 := Aside0.mk (Kd.R_drew HO_4.out)
            replace HB := Aside0.mk (below_drew1 HB.out)
            obtain ⟨Ao26, co26, eo26⟩ := Kd.V_slice HO_1.out
            (first | subst eo26 | (injection eo26 with f1_ f2_ f3_; have f4_ := f1_.symm; have f5_ := f3_.symm; clear f1_ f2_ f3_; subst f4_; subst f5_))
            obtain ⟨Ao27, co27, eo27⟩ := Kd.V_slice HO_0.out
            (first | subst eo27 | (injection eo27 with f1_ f2_ f3_; have f4_ := f1_.symm; have f5_ := f3_.symm; clear f1_ f2_ f3_; subst f4_; subst f5_))
            have p340 : 0 ≤ (0 : Int) := (by omega)
            have q340 : 0 < (x0_2.length : Int) := od
            obtain ⟨ad340, e340, hx340_0, hx340_1, hx340_2, hx340_3⟩ := at_T45 (Kd.V_reads' HO_0.out).2.2 0 p340 q340
            cases e340
            have qi340 : (0 < x0_2.length) = True := eq_true (by omega)
            (try rw [show ((0 : Int)).toNat = 0 from rfl] at hx340_0)
            (try rw [show 0 * 4 = 0 from rfl] at hx340_0)
            (try rw [Addr.add_zero'] at hx340_0)
            (try rw [show ((0 : Int)).toNat = 0 from rfl] at hx340_1)
            (try rw [show 0 * 4 = 0 from rfl] at hx340_1)
            (try rw [Addr.add_zero'] at hx340_1)
            (try rw [show ((0 : Int)).toNat = 0 from rfl] at hx340_2)
            (try rw [show 0 * 4 = 0 from rfl] at hx340_2)
            (try rw [Addr.add_zero'] at hx340_2)
            (try rw [show ((0 : Int)).toNat = 0 from rfl] at hx340_3)
            (try rw [show 0 * 4 = 0 from rfl] at hx340_3)
            (try rw [Addr.add_zero'] at hx340_3)
            replace p340 := eq_true p340
            replace q340 := eq_true q340
            have p341 : 0 ≤ (0 : Int) := (by omega)
            have q341 : 0 < (x1_2.length : Int) := od
            obtain ⟨ad341, e341, hx341_0, hx341_1, hx341_2, hx341_3⟩ := at_T45 (Kd.V_reads' HO_1.out).2.2 0 p341 q341
            cases e341
            have qi341 : (0 < x1_2.length) = True := eq_true (by omega)
            (try rw [show ((0 : Int)).toNat = 0 from rfl] at hx341_0)
            (try rw [show 0 * 4 = 0 from rfl] at hx341_0)
            (try rw [Addr.add_zero'] at hx341_0)
            (try rw [show ((0 : Int)).toNat = 0 from rfl] at hx341_1)
            (try rw [show 0 * 4 = 0 from rfl] at hx341_1)
            (try rw [Addr.add_zero'] at hx341_1)
            (try rw [show ((0 : Int)).toNat = 0 from rfl] at hx341_2)
            (try rw [show 0 * 4 = 0 from rfl] at hx341_2)
            (try rw [Addr.add_zero'] at hx341_2)
            (try rw [show ((0 : Int)).toNat = 0 from rfl] at hx341_3)
            (try rw [show 0 * 4 = 0 from rfl] at hx341_3)
            (try rw [Addr.add_zero'] at hx341_3)
            replace p341 := eq_true p341
            replace q341 := eq_true q341
            refine start_ (n := 18) (S := fun w' => w'.cell? ad340 = some (.int .i64 ((rd_T45 x0_2 0).f0)) ∧ w'.cell? ⟨ad340.block, ad340.off + 1, none⟩ = some (.string ((rd_T45 x0_2 0).f1)) ∧ w'.cell? ⟨ad340.block, ad340.off + 2, none⟩ = some (.int .i64 ((rd_T45 x0_2 0).f2.f0)) ∧ w'.cell? ⟨ad340.block, ad340.off + 3, none⟩ = some (.bool ((rd_T45 x0_2 0).f2.f1)) ∧ w'.cell? ad341 = some (.int .i64 ((rd_T45 x1_2 0).f0)) ∧ w'.cell? ⟨ad341.block, ad341.off + 1, none⟩ = some (.string ((rd_T45 x1_2 0).f1)) ∧ w'.cell? ⟨ad341.block, ad341.off + 2, none⟩ = some (.int .i64 ((rd_T45 x1_2 0).f2.f0)) ∧ w'.cell? ⟨ad341.block, ad341.off + 3, none⟩ = some (.bool ((rd_T45 x1_2 0).f2.f1))) (ds := []) _ (by kernel_rfl) rfl rfl ⟨hx340_0, hx340_1, hx340_2, hx340_3, hx341_0, hx341_1, hx341_2, hx341_3⟩ (fun hHeld => ?_); refine with_tabW diff_Of.tab7 diff_Of.bits7 (fun HT_ HW_ => ?_)
            generalize wc.drew = w25 at HO_0 HO_1 HO_4 HB hx340_0 hx340_1 hx340_2 hx340_3 hx341_0 hx341_1 hx341_2 hx341_3 hHeld ⊢
            refine p1 0 (some 41) ?_
            refine p1 1 (some 42) ?_
            refine p1 2 (some 43) ?_
            refine p1 3 (some 44) ?_
            refine p1 4 (some 45) ?_
            refine p1 5 (some 46) ?_
            refine p1 6 (some 47) ?_
            refine p1 7 (some 48) ?_
            refine p1 8 (some 49) ?_
            refine p1 9 (some 50) ?_
            refine p1 11 (some 52) ?_
            refine p1 12 (some 53) ?_
            refine t1 10 (some 51) rfl rfl hHeld (Or.inl ⟨by rfl, by rintro w' ⟨s0, s1, s2, s3, s4, s5, s6, s7⟩; go_simp; with_reducible rfl⟩) ?_
            refine t1 13 (some 54) rfl rfl hHeld (Or.inl ⟨by rfl, by rintro w' ⟨s0, s1, s2, s3, s4, s5, s6, s7⟩; go_simp; with_reducible rfl⟩) ?_
            refine o1 14 (some 55) rfl rfl (fun K hK => ?_)
            refine gS Tryz.func25 #[.agg #[.int .i64 ((rd_T45 x0_2 0).f0), .string ((rd_T45 x0_2 0).f1), .int .i64 ((rd_T45 x0_2 0).f2.f0), .bool ((rd_T45 x0_2 0).f2.f1)], .agg #[.int .i64 ((rd_T45 x1_2 0).f0), .string ((rd_T45 x1_2 0).f1), .int .i64 ((rd_T45 x1_2 0).f2.f0), .bool ((rd_T45 x1_2 0).f2.f1)]] ?_
            with_reducible refine (row_Before.calls kj10 ((rd_T45 x0_2 0).f0) ((rd_T45 x0_2 0).f1) ((rd_T45 x0_2 0).f2.f0) ((rd_T45 x0_2 0).f2.f1) ((rd_T45 x1_2 0).f0) ((rd_T45 x1_2 0).f1) ((rd_T45 x1_2 0).f2.f0) ((rd_T45 x1_2 0).f2.f1) t342 _ A24.out).mono ?_
            rintro e w28 ⟨rfl, hb⟩
            have HS0_ := (hb.cell (World.block_lt_of_cell? _ _ (hHeld.1))).trans (hHeld.1)
            have HS1_ := (hb.cell (World.block_lt_of_cell? _ _ (hHeld.2.1))).trans (hHeld.2.1)
            have HS2_ := (hb.cell (World.block_lt_of_cell? _ _ (hHeld.2.2.1))).trans (hHeld.2.2.1)
            have HS3_ := (hb.cell (World.block_lt_of_cell? _ _ (hHeld.2.2.2.1))).trans (hHeld.2.2.2.1)
            have HS4_ := (hb.cell (World.block_lt_of_cell? _ _ (hHeld.2.2.2.2.1))).trans (hHeld.2.2.2.2.1)
            have HS5_ := (hb.cell (World.block_lt_of_cell? _ _ (hHeld.2.2.2.2.2.1))).trans (hHeld.2.2.2.2.2.1)
            have HS6_ := (hb.cell (World.block_lt_of_cell? _ _ (hHeld.2.2.2.2.2.2.1))).trans (hHeld.2.2.2.2.2.2.1)
            have HS7_ := (hb.cell (World.block_lt_of_cell? _ _ (hHeld.2.2.2.2.2.2.2))).trans (hHeld.2.2.2.2.2.2.2)
            refine ⟨_, rfl, ?_⟩
            replace HO_0 := cV HO_0 hb
            replace HO_1 := cV HO_1 hb
            replace HO_4 := cR HO_4 hb
            replace HB := cW HB hb
            (try clear hb)
            refine hK.out _ _ ⟨HS0_, HS1_, HS2_, HS3_, HS4_, HS5_, HS6_, HS7_⟩ (fun hHeld => ?_)
            clear hK K
            refine norm_ (a' := ?_) ?_ ?_
            rotate_left
            ·
             show Act.put _ (some 55) _ = _
             simp only [Act.put, List.setIfInBounds_toArray, List.set_cons_zero, List.set_cons_succ, i64_w, i32_w]
             rfl
            refine p1 15 (some 56) ?_
            refine p1 16 (some 57) ?_
            refine p1 17 (some 40) ?_
            refine done_ (done_of HT_.out (by kernel_rfl)) ?_
            try go_wp2
            go_meet
            case rel => exact ⟨_, (t342), rs_, H', ⟨by have := HJ2.out; have := HK2.out; have := HJ10.out; first | omega | exact Nat.le_refl _⟩, ⟨uV HO_0.out⟩, ⟨uV HO_1.out⟩, ⟨uR HO_4.out⟩, ⟨uW HB.out⟩⟩
           ·
            rw [if_neg c21] at H
            have c21b0 : decide (0 < (x0_2.length : Int)) = false := decide_eq_false c21
            have c21b1 : decide (0 < x0_2.length) = false := decide_eq_false (by omega)
            clear c21
            have H' := Aside0.mk H
            clear H
            try go_wp2
            replace HO_0 := Aside0.mk (Kd.V_drew HO_0.out)
            replace HO_1 := Aside0.mk (Kd.V_drew HO_1.out)
            replace HO_4 := Aside0.mk (Kd.R_drew HO_4.out)
            replace HB := Aside0.mk (below_drew1 HB.out)
            obtain ⟨Ao30, co30, eo30⟩ := Kd.V_slice HO_1.out
            (first | subst eo30 | (injection eo30 with f1_ f2_ f3_; have f4_ := f1_.symm; have f5_ := f3_.symm; clear f1_ f2_ f3_; subst f4_; subst f5_))
            obtain ⟨Ao31, co31, eo31⟩ := Kd.V_slice HO_0.out
            (first | subst eo31 | (injection eo31 with f1_ f2_ f3_; have f4_ := f1_.symm; have f5_ := f3_.symm; clear f1_ f2_ f3_; subst f4_; subst f5_))
            refine start_ (n := 18) (S := fun w' => True) (ds := []) _ (by kernel_rfl) rfl rfl trivial (fun hHeld => ?_); refine with_tabW diff_Of.tab7 diff_Of.bits7 (fun HT_ HW_ => ?_)
            generalize wc.drew = w29 at HO_0 HO_1 HO_4 HB hHeld ⊢
            refine p1 0 (some 41) ?_
            refine p1 1 (some 42) ?_
            refine p1 2 (some 43) ?_
            refine p1 3 (some 44) ?_
            refine p1 4 (some 45) ?_
            refine p1 5 (some 46) ?_
            refine p1 6 (some 47) ?_
            refine p1 7 (some 48) ?_
            refine p2 8 (some 49) ?_
            refine p2 9 (some 50) ?_
            refine p2 10 (some 51) ?_
            refine p2 11 (some 52) ?_
            refine p2 12 (some 53) ?_
            refine p2 13 (some 54) ?_
            refine p2 14 (some 55) ?_
            refine p1 15 (some 56) ?_
            refine p1 16 (some 57) ?_
            refine p1 17 (some 40) ?_
            refine done_ (done_of HT_.out (by kernel_rfl)) ?_
            try go_wp2
            go_meet
            case rel => exact ⟨_, (false), rs_, H', ⟨by have := HJ2.out; have := HK2.out; have := HJ10.out; first | omega | exact Nat.le_refl _⟩, ⟨uV HO_0.out⟩, ⟨uV HO_1.out⟩, ⟨uR HO_4.out⟩, ⟨uW HB.out⟩⟩
         case rest =>
          clear HC17
          try clear c1
          try clear c2
          try clear p2
          try clear p3
          try clear q3
          try clear hx3
          try clear qi3
          try clear c5
          try clear c10
          try clear c12
          try clear c12b0
          try clear c12b1
          try clear c16
          try clear c18
          try clear c18b0
          try clear c18b1
          try clear c18b2
          try clear c21
          try clear c21b0
          try clear c21b1
          try clear c22
          try clear c22b0
          try clear c22b1
          try clear c23
          try clear c23b0
          try clear c23b1
          try clear c25
          try clear hx340_0
          try clear hx340_1
          try clear hx340_2
          try clear hx340_3
          try clear hx341_0
          try clear hx341_1
          try clear hx341_2
          try clear hx341_3
          try clear p2
          try clear p340
          try clear p341
          try clear q340
          try clear q341
          obtain ⟨kq, x40_16, rfl, HA, HJ16, HO_0, HO_1, HO_4, HB⟩ := hcut
          cases kq with
          | zero => exact absurd HA.out (by simp [diff_Of.j3])
          | succ kj16 =>
           have H := HA.out
           clear HA
           simp only [diff_Of.j3] at H
           by_cases c32 : x40_16 = true
           ·
            subst c32
            rw [if_pos rfl] at H
            obtain ⟨c33, H⟩ := gd H
            have c33b0 : decide (0 < (x0_2.length : Int)) = true := decide_eq_true c33
            have c33b1 : decide (0 < x0_2.length) = true := decide_eq_true (by omega)
            clear c33
            obtain ⟨⟨t344, t345, t346, t347, t348⟩, A34, H⟩ := bs H
            try dsimp only at H
            obtain ⟨c35, H⟩ := gd H
            have LMc35 := Aside0.mk c35
            clear c35
            obtain ⟨y349, hy349⟩ : ∃ y_ : List (S48), y_ = (x4_2 ++ [(⟨(⟨t344, t345, (⟨t346, t347⟩ : S43)⟩ : S45), t348⟩ : S48)]) := ⟨_, rfl⟩
            replace H : (if 1 ≤ (x0_2.length : Int) then (diff_Of.l0 kj16 (x0_2.drop 1) x1_2 y349) else (none)) = some (r1, r2) := by first | (rw [hy349]; with_reducible exact H) | (have H2_ := (Option.bind_some _ _).symm.trans H; rw [hy349]; with_reducible exact H2_) | (have H2_ := (Option.bind_some _ _).symm.trans H; with_reducible exact H2_) | with_reducible exact H | (rw [hy349]; exact H) | exact H
            have Ny349 := Aside0.mk hy349
            clear hy349
            obtain ⟨c36, H⟩ := gd H
            have c36b0 := eq_true c36
            have c36b1 : decide (1 ≤ (x0_2.length : Int)) = true := decide_eq_true c36
            clear c36
            obtain ⟨y352, hy352⟩ : ∃ y_ : List (S45), y_ = (x0_2.drop 1) := ⟨_, rfl⟩
            replace H : (diff_Of.l0 kj16 y352 x1_2 y349) = some (r1, r2) := by first | (rw [hy352]; with_reducible exact H) | (have H2_ := (Option.bind_some _ _).symm.trans H; rw [hy352]; with_reducible exact H2_) | (have H2_ := (Option.bind_some _ _).symm.trans H; with_reducible exact H2_) | with_reducible exact H | (rw [hy352]; exact H) | exact H
            have Ny352 := Aside0.mk hy352
            clear hy352
            have H' := Aside0.mk H
            clear H
            obtain ⟨Ao37, co37, eo37⟩ := Kd.V_slice HO_0.out
            subst eo37
            have p343 : 0 ≤ (0 : Int) := (by omega)
            have q343 : 0 < (x0_2.length : Int) := od
            obtain ⟨ad343, e343, hx343_0, hx343_1, hx343_2, hx343_3⟩ := at_T45 (Kd.V_reads' HO_0.out).2.2 0 p343 q343
            cases e343
            have qi343 : (0 < x0_2.length) = True := eq_true (by omega)
            (try rw [show ((0 : Int)).toNat = 0 from rfl] at hx343_0)
            (try rw [show 0 * 4 = 0 from rfl] at hx343_0)
            (try rw [Addr.add_zero'] at hx343_0)
            (try rw [show ((0 : Int)).toNat = 0 from rfl] at hx343_1)
            (try rw [show 0 * 4 = 0 from rfl] at hx343_1)
            (try rw [Addr.add_zero'] at hx343_1)
            (try rw [show ((0 : Int)).toNat = 0 from rfl] at hx343_2)
            (try rw [show 0 * 4 = 0 from rfl] at hx343_2)
            (try rw [Addr.add_zero'] at hx343_2)
            (try rw [show ((0 : Int)).toNat = 0 from rfl] at hx343_3)
            (try rw [show 0 * 4 = 0 from rfl] at hx343_3)
            (try rw [Addr.add_zero'] at hx343_3)
            replace p343 := eq_true p343
            replace q343 := eq_true q343
            go_wp2_with (first | (refine gL (some 62) rfl Tryz.func26 #[.agg #[.int .i64 ((rd_T45 x0_2 0).f0), .string ((rd_T45 x0_2 0).f1), .int .i64 ((rd_T45 x0_2 0).f2.f0), .bool ((rd_T45 x0_2 0).f2.f1)]] ?_; (with_reducible refine (diff_gone.calls ((rd_T45 x0_2 0).f0) ((rd_T45 x0_2 0).f1) ((rd_T45 x0_2 0).f2.f0) ((rd_T45 x0_2 0).f2.f1) t344 t345 t346 t347 t348 _ A34.out).mono ?_); rintro e w38 ⟨rfl, hb⟩; refine ⟨_, rfl, ?_⟩; replace HO_0 := cV HO_0 hb; replace HO_1 := cV HO_1 hb; replace HO_4 := cR HO_4 hb; replace HB := cW HB hb; (try clear hb)) | ((with_reducible refine gate_builtin (b := .append) (xs := #[.tmp 58, .tmp 63]) rfl ?_); (try (refine gate_guard (by rfl) ?_; dsimp only)); at_builtin; refine Kd.R_append k48 (w0 := w) w.heap.size rfl (.tmp 58) (.tmp 63) 25 48 (.agg #[(.int .i64 0), (.string ⟨#[]⟩), (.int .i64 0), (.bool false), (.bool false)]) 48 rfl Tryz.underlying25 info48 rfl (by decide) (by omega) u4 x4_2 (⟨(⟨t344, t345, (⟨t346, t347⟩ : S43)⟩ : S45), t348⟩ : S48) [.int .i64 t344, .string t345, .int .i64 t346, .bool t347, .bool t348] (fun k_ => (w.heap.size ≤ k_)) (fun _ => False) rfl rfl ?aP (fun _ hk => hk.elim) ?aF ?aO ?aB ?aS ?aL ?_; (case aP => exact k48_mkM _ _ _ (⟨(⟨t344, t345, (⟨t346, t347⟩ : S43)⟩ : S45), t348⟩ : S48)); (case aB => exact (uW HB.out)); (case aF => exact (fun k_ hk => (Nat.le_trans (below_size (uW HB.out)) hk))); (case aO => exact (uR HO_4.out)); (case aS => exact (below_size (uW HB.out))); (case aL => have := LMc35.out; omega); intro v350 w39 ho hb hg hat; rw [← Ny349.out] at ho; replace HO_0 := Aside0.mk (Kd.V_afterv (ok := (fun k_ => ((P0_ k_ ∨ P1_ k_) ∨ w.heap.size ≤ k_))) (uV HO_0.out) hg hat); replace HO_1 := Aside0.mk (Kd.V_afterv (ok := (fun k_ => ((P0_ k_ ∨ P1_ k_) ∨ w.heap.size ≤ k_))) (uV HO_1.out) hg hat); replace HB := Aside0.mk (hb); have HO351 := Aside0.mk (ho); clear HO_4; clear ho hb hg hat; have q40 : (1 : Int) ≤ ((x0_2.length : Int) : Int) := od; obtain ⟨i040, hi040, _, hsz40, _⟩ := info_parts info45; have hroom40 : x0_2.length ≤ co37 := (Kd.V_reads' HO_0.out).2.1; have hC40 : Kd.F k45 _ _ (some ad343) x0_2.length x0_2 := (Kd.V_at (base := w.heap.size) HO_0.out).2.2; have hcut40 := cut_from (P := Tryz.prog) 22 45 .i64 Tryz.underlying22 hi040 4 hsz40 (some ad343) x0_2.length co37 1 (by omega) q40; have hr40 := Kd.F_cut (m := (1 : Int).toNat) (c := co37) hC40 (by omega) hroom40; obtain ⟨A40, hA40⟩ : ∃ A1, A1 = (if co37 = (1 : Int).toNat then (some ad343) else ((some ad343) : Option Addr).map (·.add ((1 : Int).toNat * 4))) := ⟨_, rfl⟩; obtain ⟨c40, hc40⟩ : ∃ c1, c1 = co37 - (1 : Int).toNat := ⟨_, rfl⟩; have hy40 : y352.length = x0_2.length - (1 : Int).toNat := (by rw [Ny352.out, List.length_drop] <;> omega); rw [show (x0_2).drop (1 : Int).toNat = y352 from Ny352.out.symm] at hr40; replace hr40 : Kd.F k45 _ _ A40 y352.length y352 := (by rw [hA40]; exact hr40); rw [← hy40, ← hA40, ← hc40] at hcut40; have HO356 := Aside0.mk (show Kd.V k45 45 _ w.heap.size _ (.slice A40 y352.length c40) y352 from Kd.V_mk (by rw [hy40, hc40]; exact Nat.sub_le_sub_right hroom40 _) hr40); have HC356 := Aside0.mk (show y352.length ≤ c40 from by rw [hy40, hc40]; exact Nat.sub_le_sub_right hroom40 _); clear hr40 hC40 hroom40 hi040 hsz40 hc40; have KY40 := Aside0.mk hy40; have KA40 := Aside0.mk hA40; clear hy40 hA40; replace q40 := eq_true q40))
            go_roundg kj16
            case measure => have := HJ2.out; have := HK2.out; have := HJ10.out; have := HJ16.out; omega
            case rel => exact ⟨(y352), (x1_2), (y349), H', ⟨by have := HJ2.out; have := HK2.out; have := HJ10.out; have := HJ16.out; omega⟩, ⟨uV HO356.out⟩, ⟨uV HO_1.out⟩, ⟨uR HO351.out⟩, ⟨uW HB.out⟩⟩
           ·
            replace c32 := Bool.eq_false_iff.mpr c32
            subst c32
            rw [if_neg (show ¬ (false = true) by decide)] at H
            have HC41 := Aside0.mk H
            clear H
            go_upto_region 10 with (fail)
            go_cut [67] (fun v67 wc => ∃ (kq : Nat) (x67_40 : Bool), v67 = .bool x67_40 ∧ Aside0 (diff_Of.j4 kq x0_2 x1_2 x4_2 x67_40 = some (r1, r2)) ∧ Aside0 (kq ≤ kj16) ∧ Aside0 (Kd.V k45 45 wc w.heap.size (fun k_ => ((P0_ k_ ∨ P1_ k_) ∨ w.heap.size ≤ k_) ∧ some k_ ≠ (u4 : Value).ownBlock) u0 x0_2) ∧ Aside0 (Kd.V k45 45 wc w.heap.size (fun k_ => ((P0_ k_ ∨ P1_ k_) ∨ w.heap.size ≤ k_) ∧ some k_ ≠ (u4 : Value).ownBlock) u1 x1_2) ∧ Aside0 (Kd.R k48 48 wc w.heap.size (fun k_ => (w.heap.size ≤ k_)) u4 x4_2) ∧ Aside0 (Below w.heap.size w wc))
            case first =>
             have H := HC41.out
             clear HC41
             by_cases c42 : (x0_2.length : Int) = 0
             ·
              rw [if_pos c42] at H
              have c42b0 : ((x0_2.length : Int) == 0) = true := beq_iff_eq.mpr c42
              have c42b1 : ((x0_2.length : Int) != 0) = false := bne_eq_false_iff_eq.mpr c42
              clear c42
              (first | rw [c42b0] | (simp only [i64_w, i32_w]; rw [c42b0]) | skip)
              have H' := Aside0.mk H
              clear H
              try go_wp2
              replace HO_0 := Aside0.mk (Kd.V_drew HO_0.out)
              replace HO_1 := Aside0.mk (Kd.V_drew HO_1.out)
              replace HO_4 := Aside0.mk (Kd.R_drew HO_4.out)
              replace HB := Aside0.mk (below_drew1 HB.out)
              obtain ⟨Ao44, co44, eo44⟩ := Kd.V_slice HO_0.out
              (first | subst eo44 | (injection eo44 with f1_ f2_ f3_; have f4_ := f1_.symm; have f5_ := f3_.symm; clear f1_ f2_ f3_; subst f4_; subst f5_))
              refine start_ (n := 13) (S := fun w' => True) (ds := []) _ (by kernel_rfl) rfl rfl trivial (fun hHeld => ?_); refine with_tabW diff_Of.tab10 diff_Of.bits10 (fun HT_ HW_ => ?_)
              generalize wc.drew = w43 at HO_0 HO_1 HO_4 HB hHeld ⊢
              refine p1 0 (some 68) ?_
              refine p1 1 (some 69) ?_
              refine p1 2 (some 70) ?_
              refine p1 3 (some 71) ?_
              refine p2 4 (some 72) ?_
              refine p2 5 (some 73) ?_
              refine p2 6 (some 74) ?_
              refine p2 7 (some 75) ?_
              refine p2 8 (some 76) ?_
              refine p2 9 (some 77) ?_
              refine p2 10 (some 78) ?_
              refine p1 11 (some 79) ?_
              refine p1 12 (some 67) ?_
              refine done_ (done_of HT_.out (by kernel_rfl)) ?_
              try go_wp2
              go_meet
              case rel => exact ⟨_, (true), rs_, H', ⟨by have := HJ2.out; have := HK2.out; have := HJ10.out; have := HJ16.out; first | omega | exact Nat.le_refl _⟩, ⟨uV HO_0.out⟩, ⟨uV HO_1.out⟩, ⟨uR HO_4.out⟩, ⟨uW HB.out⟩⟩
             ·
              rw [if_neg c42] at H
              have c42b0 : ((x0_2.length : Int) == 0) = false := beq_eq_false_iff_ne.mpr c42
              have c42b1 : ((x0_2.length : Int) != 0) = true := bne_iff_ne.mpr c42
              have c42b2 : ¬ (x0_2 = []) := fun h_ => c42 (by rw [h_]; rfl)
              (first | rw [c42b0] | (simp only [i64_w, i32_w]; rw [c42b0]) | skip)
              obtain ⟨c45, H⟩ := gd H
              have c45b0 : decide (0 < (x1_2.length : Int)) = true := decide_eq_true c45
              have c45b1 : decide (0 < x1_2.length) = true := decide_eq_true (by omega)
              clear c45
              obtain ⟨c46, H⟩ := gd H
              have c46b0 : decide (0 < (x0_2.length : Int)) = true := decide_eq_true c46
              have c46b1 : decide (0 < x0_2.length) = true := decide_eq_true (by omega)
              clear c46
              obtain ⟨t359, A47, H⟩ := bs H
              try dsimp only at H
              have H' := Aside0.mk H
              clear H
              try go_wp2
              replace HO_0 := Aside0.mk (Kd.V_drew HO_0.out)
              replace HO_1 := Aside0.mk (Kd.V_drew HO_1.out)
              replace HO_4 := Aside0.mk (Kd.R_drew HO_4.out)
              replace HB := Aside0.mk (below_drew1 HB.out)
              obtain ⟨Ao49, co49, eo49⟩ := Kd.V_slice HO_0.out
              (first | subst eo49 | (injection eo49 with f1_ f2_ f3_; have f4_ := f1_.symm; have f5_ := f3_.symm; clear f1_ f2_ f3_; subst f4_; subst f5_))
              obtain ⟨Ao50, co50, eo50⟩ := Kd.V_slice HO_1.out
              (first | subst eo50 | (injection eo50 with f1_ f2_ f3_; have f4_ := f1_.symm; have f5_ := f3_.symm; clear f1_ f2_ f3_; subst f4_; subst f5_))
              have p357 : 0 ≤ (0 : Int) := (by omega)
              have q357 : 0 < (x1_2.length : Int) := od
              obtain ⟨ad357, e357, hx357_0, hx357_1, hx357_2, hx357_3⟩ := at_T45 (Kd.V_reads' HO_1.out).2.2 0 p357 q357
              cases e357
              have qi357 : (0 < x1_2.length) = True := eq_true (by omega)
              (try rw [show ((0 : Int)).toNat = 0 from rfl] at hx357_0)
              (try rw [show 0 * 4 = 0 from rfl] at hx357_0)
              (try rw [Addr.add_zero'] at hx357_0)
              (try rw [show ((0 : Int)).toNat = 0 from rfl] at hx357_1)
              (try rw [show 0 * 4 = 0 from rfl] at hx357_1)
              (try rw [Addr.add_zero'] at hx357_1)
              (try rw [show ((0 : Int)).toNat = 0 from rfl] at hx357_2)
              (try rw [show 0 * 4 = 0 from rfl] at hx357_2)
              (try rw [Addr.add_zero'] at hx357_2)
              (try rw [show ((0 : Int)).toNat = 0 from rfl] at hx357_3)
              (try rw [show 0 * 4 = 0 from rfl] at hx357_3)
              (try rw [Addr.add_zero'] at hx357_3)
              replace p357 := eq_true p357
              replace q357 := eq_true q357
              have p358 : 0 ≤ (0 : Int) := (by omega)
              have q358 : 0 < (x0_2.length : Int) := od
              obtain ⟨ad358, e358, hx358_0, hx358_1, hx358_2, hx358_3⟩ := at_T45 (Kd.V_reads' HO_0.out).2.2 0 p358 q358
              cases e358
              have qi358 : (0 < x0_2.length) = True := eq_true (by omega)
              (try rw [show ((0 : Int)).toNat = 0 from rfl] at hx358_0)
              (try rw [show 0 * 4 = 0 from rfl] at hx358_0)
              (try rw [Addr.add_zero'] at hx358_0)
              (try rw [show ((0 : Int)).toNat = 0 from rfl] at hx358_1)
              (try rw [show 0 * 4 = 0 from rfl] at hx358_1)
              (try rw [Addr.add_zero'] at hx358_1)
              (try rw [show ((0 : Int)).toNat = 0 from rfl] at hx358_2)
              (try rw [show 0 * 4 = 0 from rfl] at hx358_2)
              (try rw [Addr.add_zero'] at hx358_2)
              (try rw [show ((0 : Int)).toNat = 0 from rfl] at hx358_3)
              (try rw [show 0 * 4 = 0 from rfl] at hx358_3)
              (try rw [Addr.add_zero'] at hx358_3)
              replace p358 := eq_true p358
              replace q358 := eq_true q358
              refine start_ (n := 13) (S := fun w' => w'.cell? ad357 = some (.int .i64 ((rd_T45 x1_2 0).f0)) ∧ w'.cell? ⟨ad357.block, ad357.off + 1, none⟩ = some (.string ((rd_T45 x1_2 0).f1)) ∧ w'.cell? ⟨ad357.block, ad357.off + 2, none⟩ = some (.int .i64 ((rd_T45 x1_2 0).f2.f0)) ∧ w'.cell? ⟨ad357.block, ad357.off + 3, none⟩ = some (.bool ((rd_T45 x1_2 0).f2.f1)) ∧ w'.cell? ad358 = some (.int .i64 ((rd_T45 x0_2 0).f0)) ∧ w'.cell? ⟨ad358.block, ad358.off + 1, none⟩ = some (.string ((rd_T45 x0_2 0).f1)) ∧ w'.cell? ⟨ad358.block, ad358.off + 2, none⟩ = some (.int .i64 ((rd_T45 x0_2 0).f2.f0)) ∧ w'.cell? ⟨ad358.block, ad358.off + 3, none⟩ = some (.bool ((rd_T45 x0_2 0).f2.f1))) (ds := []) _ (by kernel_rfl) rfl rfl ⟨hx357_0, hx357_1, hx357_2, hx357_3, hx358_0, hx358_1, hx358_2, hx358_3⟩ (fun hHeld => ?_); refine with_tabW diff_Of.tab10 diff_Of.bits10 (fun HT_ HW_ => ?_)
              generalize wc.drew = w48 at HO_0 HO_1 HO_4 HB hx357_0 hx357_1 hx357_2 hx357_3 hx358_0 hx358_1 hx358_2 hx358_3 hHeld ⊢
              refine p1 0 (some 68) ?_
              refine p1 1 (some 69) ?_
              refine p1 2 (some 70) ?_
              refine p1 3 (some 71) ?_
              refine p1 4 (some 72) ?_
              refine p1 5 (some 73) ?_
              refine p1 7 (some 75) ?_
              refine p1 8 (some 76) ?_
              refine t1 6 (some 74) rfl rfl hHeld (Or.inl ⟨by rfl, by rintro w' ⟨s0, s1, s2, s3, s4, s5, s6, s7⟩; go_simp; with_reducible rfl⟩) ?_
              refine t1 9 (some 77) rfl rfl hHeld (Or.inl ⟨by rfl, by rintro w' ⟨s0, s1, s2, s3, s4, s5, s6, s7⟩; go_simp; with_reducible rfl⟩) ?_
              refine o1 10 (some 78) rfl rfl (fun K hK => ?_)
              refine gS Tryz.func25 #[.agg #[.int .i64 ((rd_T45 x1_2 0).f0), .string ((rd_T45 x1_2 0).f1), .int .i64 ((rd_T45 x1_2 0).f2.f0), .bool ((rd_T45 x1_2 0).f2.f1)], .agg #[.int .i64 ((rd_T45 x0_2 0).f0), .string ((rd_T45 x0_2 0).f1), .int .i64 ((rd_T45 x0_2 0).f2.f0), .bool ((rd_T45 x0_2 0).f2.f1)]] ?_
              with_reducible refine (row_Before.calls kj16 ((rd_T45 x1_2 0).f0) ((rd_T45 x1_2 0).f1) ((rd_T45 x1_2 0).f2.f0) ((rd_T45 x1_2 0).f2.f1) ((rd_T45 x0_2 0).f0) ((rd_T45 x0_2 0).f1) ((rd_T45 x0_2 0).f2.f0) ((rd_T45 x0_2 0).f2.f1) t359 _ A47.out).mono ?_
              rintro e w51 ⟨rfl, hb⟩
              have HS0_ := (hb.cell (World.block_lt_of_cell? _ _ (hHeld.1))).trans (hHeld.1)
              have HS1_ := (hb.cell (World.block_lt_of_cell? _ _ (hHeld.2.1))).trans (hHeld.2.1)
              have HS2_ := (hb.cell (World.block_lt_of_cell? _ _ (hHeld.2.2.1))).trans (hHeld.2.2.1)
              have HS3_ := (hb.cell (World.block_lt_of_cell? _ _ (hHeld.2.2.2.1))).trans (hHeld.2.2.2.1)
              have HS4_ := (hb.cell (World.block_lt_of_cell? _ _ (hHeld.2.2.2.2.1))).trans (hHeld.2.2.2.2.1)
              have HS5_ := (hb.cell (World.block_lt_of_cell? _ _ (hHeld.2.2.2.2.2.1))).trans (hHeld.2.2.2.2.2.1)
              have HS6_ := (hb.cell (World.block_lt_of_cell? _ _ (hHeld.2.2.2.2.2.2.1))).trans (hHeld.2.2.2.2.2.2.1)
              have HS7_ := (hb.cell (World.block_lt_of_cell? _ _ (hHeld.2.2.2.2.2.2.2))).trans (hHeld.2.2.2.2.2.2.2)
              refine ⟨_, rfl, ?_⟩
              replace HO_0 := cV HO_0 hb
              replace HO_1 := cV HO_1 hb
              replace HO_4 := cR HO_4 hb
              replace HB := cW HB hb
              (try clear hb)
              refine hK.out _ _ ⟨HS0_, HS1_, HS2_, HS3_, HS4_, HS5_, HS6_, HS7_⟩ (fun hHeld => ?_)
              clear hK K
              refine norm_ (a' := ?_) ?_ ?_
              rotate_left
              ·
               show Act.put _ (some 78) _ = _
               simp only [Act.put, List.setIfInBounds_toArray, List.set_cons_zero, List.set_cons_succ, i64_w, i32_w]
               rfl
              refine p1 11 (some 79) ?_
              refine p1 12 (some 67) ?_
              refine done_ (done_of HT_.out (by kernel_rfl)) ?_
              try go_wp2
              go_meet
              case rel => exact ⟨_, (t359), rs_, H', ⟨by have := HJ2.out; have := HK2.out; have := HJ10.out; have := HJ16.out; first | omega | exact Nat.le_refl _⟩, ⟨uV HO_0.out⟩, ⟨uV HO_1.out⟩, ⟨uR HO_4.out⟩, ⟨uW HB.out⟩⟩
            case rest =>
             clear HC41
             try clear c1
             try clear c2
             try clear p2
             try clear c3
             try clear p3
             try clear q3
             try clear hx3
             try clear qi3
             try clear c4
             try clear q4
             try clear c5
             try clear c10
             try clear c12
             try clear c12b0
             try clear c12b1
             try clear c16
             try clear c18
             try clear c18b0
             try clear c18b1
             try clear c18b2
             try clear c21
             try clear c21b0
             try clear c21b1
             try clear c22
             try clear c22b0
             try clear c22b1
             try clear c23
             try clear c23b0
             try clear c23b1
             try clear c25
             try clear c26
             try clear c32
             try clear c33
             try clear c33b0
             try clear c33b1
             try clear p34
             try clear q34
             try clear hx34
             try clear qi34
             try clear c35
             try clear p35
             try clear q35
             try clear hx35
             try clear qi35
             try clear c36
             try clear c36b0
             try clear c36b1
             try clear c40
             try clear q40
             try clear c42
             try clear c42b0
             try clear c42b1
             try clear c42b2
             try clear c45
             try clear c45b0
             try clear c45b1
             try clear c46
             try clear c46b0
             try clear c46b1
             try clear hx340_0
             try clear hx340_1
             try clear hx340_2
             try clear hx340_3
             try clear hx341_0
             try clear hx341_1
             try clear hx341_2
             try clear hx341_3
             try clear hx343_0
             try clear hx343_1
             try clear hx343_2
             try clear hx343_3
             try clear hx357_0
             try clear hx357_1
             try clear hx357_2
             try clear hx357_3
             try clear hx358_0
             try clear hx358_1
             try clear hx358_2
             try clear hx358_3
             try clear p2
             try clear p3
             try clear p340
             try clear p341
             try clear p343
             try clear p357
             try clear p358
             try clear q3
             try clear q340
             try clear q341
             try clear q343
             try clear q357
             try clear q358
             try clear q40
             obtain ⟨kq, x67_40, rfl, HA, HJ40, HO_0, HO_1, HO_4, HB⟩ := hcut
             cases kq with
             | zero => exact absurd HA.out (by simp [diff_Of.j4])
             | succ kj40 =>
              have H := HA.out
              clear HA
              simp only [diff_Of.j4] at H
              by_cases c52 : x67_40 = true
              ·
               subst c52
               rw [if_pos rfl] at H
               obtain ⟨c53, H⟩ := gd H
               have c53b0 : decide (0 < (x1_2.length : Int)) = true := decide_eq_true c53
               have c53b1 : decide (0 < x1_2.length) = true := decide_eq_true (by omega)
               clear c53
               obtain ⟨c54, H⟩ := gd H
               have LMc54 := Aside0.mk c54
               clear c54
               obtain ⟨y361, hy361⟩ : ∃ y_ : List (S48), y_ = (x4_2 ++ [(⟨(⟨(rd_T45 x1_2 0).f0, (rd_T45 x1_2 0).f1, (⟨(rd_T45 x1_2 0).f2.f0, (rd_T45 x1_2 0).f2.f1⟩ : S43)⟩ : S45), false⟩ : S48)]) := ⟨_, rfl⟩
               replace H : (if 1 ≤ (x1_2.length : Int) then (diff_Of.l0 kj40 x0_2 (x1_2.drop 1) y361) else (none)) = some (r1, r2) := by first | (rw [hy361]; with_reducible exact H) | (have H2_ := (Option.bind_some _ _).symm.trans H; rw [hy361]; with_reducible exact H2_) | (have H2_ := (Option.bind_some _ _).symm.trans H; with_reducible exact H2_) | with_reducible exact H | (rw [hy361]; exact H) | exact H
               have Ny361 := Aside0.mk hy361
               clear hy361
               obtain ⟨c55, H⟩ := gd H
               have c55b0 := eq_true c55
               have c55b1 : decide (1 ≤ (x1_2.length : Int)) = true := decide_eq_true c55
               clear c55
               obtain ⟨y364, hy364⟩ : ∃ y_ : List (S45), y_ = (x1_2.drop 1) := ⟨_, rfl⟩
               replace H : (diff_Of.l0 kj40 x0_2 y364 y361) = some (r1, r2) := by first | (rw [hy364]; with_reducible exact H) | (have H2_ := (Option.bind_some _ _).symm.trans H; rw [hy364]; with_reducible exact H2_) | (have H2_ := (Option.bind_some _ _).symm.trans H; with_reducible exact H2_) | with_reducible exact H | (rw [hy364]; exact H) | exact H
               have Ny364 := Aside0.mk hy364
               clear hy364
               have H' := Aside0.mk H
               clear H
               obtain ⟨Ao56, co56, eo56⟩ := Kd.V_slice HO_1.out
               subst eo56
               have p360 : 0 ≤ (0 : Int) := (by omega)
               have q360 : 0 < (x1_2.length : Int) := od
               obtain ⟨ad360, e360, hx360_0, hx360_1, hx360_2, hx360_3⟩ := at_T45 (Kd.V_reads' HO_1.out).2.2 0 p360 q360
               cases e360
               have qi360 : (0 < x1_2.length) = True := eq_true (by omega)
               (try rw [show ((0 : Int)).toNat = 0 from rfl] at hx360_0)
               (try rw [show 0 * 4 = 0 from rfl] at hx360_0)
               (try rw [Addr.add_zero'] at hx360_0)
               (try rw [show ((0 : Int)).toNat = 0 from rfl] at hx360_1)
               (try rw [show 0 * 4 = 0 from rfl] at hx360_1)
               (try rw [Addr.add_zero'] at hx360_1)
               (try rw [show ((0 : Int)).toNat = 0 from rfl] at hx360_2)
               (try rw [show 0 * 4 = 0 from rfl] at hx360_2)
               (try rw [Addr.add_zero'] at hx360_2)
               (try rw [show ((0 : Int)).toNat = 0 from rfl] at hx360_3)
               (try rw [show 0 * 4 = 0 from rfl] at hx360_3)
               (try rw [Addr.add_zero'] at hx360_3)
               replace p360 := eq_true p360
               replace q360 := eq_true q360
               go_wp2_with (first | ((with_reducible refine gate_builtin (b := .append) (xs := #[.tmp 80, .tmp 85]) rfl ?_); (try (refine gate_guard (by rfl) ?_; dsimp only)); at_builtin; refine Kd.R_append k48 (w0 := w) w.heap.size rfl (.tmp 80) (.tmp 85) 25 48 (.agg #[(.int .i64 0), (.string ⟨#[]⟩), (.int .i64 0), (.bool false), (.bool false)]) 48 rfl Tryz.underlying25 info48 rfl (by decide) (by omega) u4 x4_2 (⟨(⟨(rd_T45 x1_2 0).f0, (rd_T45 x1_2 0).f1, (⟨(rd_T45 x1_2 0).f2.f0, (rd_T45 x1_2 0).f2.f1⟩ : S43)⟩ : S45), false⟩ : S48) [.int .i64 ((rd_T45 x1_2 0).f0), .string ((rd_T45 x1_2 0).f1), .int .i64 ((rd_T45 x1_2 0).f2.f0), .bool ((rd_T45 x1_2 0).f2.f1), .bool false] (fun k_ => (w.heap.size ≤ k_)) (fun _ => False) rfl rfl ?aP (fun _ hk => hk.elim) ?aF ?aO ?aB ?aS ?aL ?_; (case aP => exact k48_mkM _ _ _ (⟨(⟨(rd_T45 x1_2 0).f0, (rd_T45 x1_2 0).f1, (⟨(rd_T45 x1_2 0).f2.f0, (rd_T45 x1_2 0).f2.f1⟩ : S43)⟩ : S45), false⟩ : S48)); (case aB => exact (uW HB.out)); (case aF => exact (fun k_ hk => (Nat.le_trans (below_size (uW HB.out)) hk))); (case aO => exact (uR HO_4.out)); (case aS => exact (below_size (uW HB.out))); (case aL => have := LMc54.out; omega); intro v362 w57 ho hb hg hat; rw [← Ny361.out] at ho; replace HO_0 := Aside0.mk (Kd.V_afterv (ok := (fun k_ => ((P0_ k_ ∨ P1_ k_) ∨ w.heap.size ≤ k_))) (uV HO_0.out) hg hat); replace HO_1 := Aside0.mk (Kd.V_afterv (ok := (fun k_ => ((P0_ k_ ∨ P1_ k_) ∨ w.heap.size ≤ k_))) (uV HO_1.out) hg hat); replace HB := Aside0.mk (hb); have HO363 := Aside0.mk (ho); clear HO_4; clear ho hb hg hat; have q58 : (1 : Int) ≤ ((x1_2.length : Int) : Int) := od; obtain ⟨i058, hi058, _, hsz58, _⟩ := info_parts info45; have hroom58 : x1_2.length ≤ co56 := (Kd.V_reads' HO_1.out).2.1; have hC58 : Kd.F k45 _ _ (some ad360) x1_2.length x1_2 := (Kd.V_at (base := w.heap.size) HO_1.out).2.2; have hcut58 := cut_from (P := Tryz.prog) 22 45 .i64 Tryz.underlying22 hi058 4 hsz58 (some ad360) x1_2.length co56 1 (by omega) q58; have hr58 := Kd.F_cut (m := (1 : Int).toNat) (c := co56) hC58 (by omega) hroom58; obtain ⟨A58, hA58⟩ : ∃ A1, A1 = (if co56 = (1 : Int).toNat then (some ad360) else ((some ad360) : Option Addr).map (·.add ((1 : Int).toNat * 4))) := ⟨_, rfl⟩; obtain ⟨c58, hc58⟩ : ∃ c1, c1 = co56 - (1 : Int).toNat := ⟨_, rfl⟩; have hy58 : y364.length = x1_2.length - (1 : Int).toNat := (by rw [Ny364.out, List.length_drop] <;> omega); rw [show (x1_2).drop (1 : Int).toNat = y364 from Ny364.out.symm] at hr58; replace hr58 : Kd.F k45 _ _ A58 y364.length y364 := (by rw [hA58]; exact hr58); rw [← hy58, ← hA58, ← hc58] at hcut58; have HO368 := Aside0.mk (show Kd.V k45 45 _ w.heap.size _ (.slice A58 y364.length c58) y364 from Kd.V_mk (by rw [hy58, hc58]; exact Nat.sub_le_sub_right hroom58 _) hr58); have HC368 := Aside0.mk (show y364.length ≤ c58 from by rw [hy58, hc58]; exact Nat.sub_le_sub_right hroom58 _); clear hr58 hC58 hroom58 hi058 hsz58 hc58; have KY58 := Aside0.mk hy58; have KA58 := Aside0.mk hA58; clear hy58 hA58; replace q58 := eq_true q58))
               go_roundg kj40
               case measure => have := HJ2.out; have := HK2.out; have := HJ10.out; have := HJ16.out; have := HJ40.out; omega
               case rel => exact ⟨(x0_2), (y364), (y361), H', ⟨by have := HJ2.out; have := HK2.out; have := HJ10.out; have := HJ16.out; have := HJ40.out; omega⟩, ⟨uV HO_0.out⟩, ⟨uV HO368.out⟩, ⟨uR HO363.out⟩, ⟨uW HB.out⟩⟩
              ·
               replace c52 := Bool.eq_false_iff.mpr c52
               subst c52
               rw [if_neg (show ¬ (false = true) by decide)] at H
               obtain ⟨c59, H⟩ := gd H
               have c59b0 : decide (0 < (x0_2.length : Int)) = true := decide_eq_true c59
               have c59b1 : decide (0 < x0_2.length) = true := decide_eq_true (by omega)
               clear c59
               obtain ⟨c60, H⟩ := gd H
               have c60b0 : decide (0 < (x1_2.length : Int)) = true := decide_eq_true c60
               have c60b1 : decide (0 < x1_2.length) = true := decide_eq_true (by omega)
               clear c60
               by_cases c61 : (!(((rd_T45 x0_2 0).f0) == ((rd_T45 x1_2 0).f0)) || (!((((rd_T45 x0_2 0).f1).toList) == (((rd_T45 x1_2 0).f1).toList)) || ((!(((rd_T45 x0_2 0).f2.f0) == ((rd_T45 x1_2 0).f2.f0)) || (!(((rd_T45 x0_2 0).f2.f1) == ((rd_T45 x1_2 0).f2.f1))))))) = true
               ·
                rw [if_pos c61] at H
                have c61b0 : (!(((rd_T45 x0_2 0).f0) == ((rd_T45 x1_2 0).f0)) || (!((((rd_T45 x0_2 0).f1).toList) == (((rd_T45 x1_2 0).f1).toList)) || ((!(((rd_T45 x0_2 0).f2.f0) == ((rd_T45 x1_2 0).f2.f0)) || (!(((rd_T45 x0_2 0).f2.f1) == ((rd_T45 x1_2 0).f2.f1))))))) = true := c61
                clear c61
                obtain ⟨c62, H⟩ := gd H
                have LMc62 := Aside0.mk c62
                clear c62
                obtain ⟨y372, hy372⟩ : ∃ y_ : List (S48), y_ = (x4_2 ++ [(⟨(⟨(rd_T45 x1_2 0).f0, (rd_T45 x1_2 0).f1, (⟨(rd_T45 x1_2 0).f2.f0, (rd_T45 x1_2 0).f2.f1⟩ : S43)⟩ : S45), false⟩ : S48)]) := ⟨_, rfl⟩
                replace H : (if 1 ≤ (x0_2.length : Int) then (if 1 ≤ (x1_2.length : Int) then (diff_Of.l0 kj40 (x0_2.drop 1) (x1_2.drop 1) y372) else (none)) else (none)) = some (r1, r2) := by first | (rw [hy372]; with_reducible exact H) | (have H2_ := (Option.bind_some _ _).symm.trans H; rw [hy372]; with_reducible exact H2_) | (have H2_ := (Option.bind_some _ _).symm.trans H; with_reducible exact H2_) | with_reducible exact H | (rw [hy372]; exact H) | exact H
                have Ny372 := Aside0.mk hy372
                clear hy372
                obtain ⟨c63, H⟩ := gd H
                have c63b0 := eq_true c63
                have c63b1 : decide (1 ≤ (x0_2.length : Int)) = true := decide_eq_true c63
                clear c63
                obtain ⟨y375, hy375⟩ : ∃ y_ : List (S45), y_ = (x0_2.drop 1) := ⟨_, rfl⟩
                replace H : (if 1 ≤ (x1_2.length : Int) then (diff_Of.l0 kj40 y375 (x1_2.drop 1) y372) else (none)) = some (r1, r2) := by first | (rw [hy375]; with_reducible exact H) | (have H2_ := (Option.bind_some _ _).symm.trans H; rw [hy375]; with_reducible exact H2_) | (have H2_ := (Option.bind_some _ _).symm.trans H; with_reducible exact H2_) | with_reducible exact H | (rw [hy375]; exact H) | exact H
                have Ny375 := Aside0.mk hy375
                clear hy375
                obtain ⟨c64, H⟩ := gd H
                have c64b0 := eq_true c64
                have c64b1 : decide (1 ≤ (x1_2.length : Int)) = true := decide_eq_true c64
                clear c64
                obtain ⟨y380, hy380⟩ : ∃ y_ : List (S45), y_ = (x1_2.drop 1) := ⟨_, rfl⟩
                replace H : (diff_Of.l0 kj40 y375 y380 y372) = some (r1, r2) := by first | (rw [hy380]; with_reducible exact H) | (have H2_ := (Option.bind_some _ _).symm.trans H; rw [hy380]; with_reducible exact H2_) | (have H2_ := (Option.bind_some _ _).symm.trans H; with_reducible exact H2_) | with_reducible exact H | (rw [hy380]; exact H) | exact H
                have Ny380 := Aside0.mk hy380
                clear hy380
                have H' := Aside0.mk H
                clear H
                try go_wp2
                replace HO_0 := Aside0.mk (Kd.V_drew HO_0.out)
                replace HO_1 := Aside0.mk (Kd.V_drew HO_1.out)
                replace HO_4 := Aside0.mk (Kd.R_drew HO_4.out)
                replace HB := Aside0.mk (below_drew1 HB.out)
                obtain ⟨Ao66, co66, eo66⟩ := Kd.V_slice HO_0.out
                (first | subst eo66 | (injection eo66 with f1_ f2_ f3_; have f4_ := f1_.symm; have f5_ := f3_.symm; clear f1_ f2_ f3_; subst f4_; subst f5_))
                have p369 : 0 ≤ (0 : Int) := (by omega)
                have q369 : 0 < (x0_2.length : Int) := od
                obtain ⟨ad369, e369, hx369_0, hx369_1, hx369_2, hx369_3⟩ := at_T45 (Kd.V_reads' HO_0.out).2.2 0 p369 q369
                cases e369
                have qi369 : (0 < x0_2.length) = True := eq_true (by omega)
                (try rw [show ((0 : Int)).toNat = 0 from rfl] at hx369_0)
                (try rw [show 0 * 4 = 0 from rfl] at hx369_0)
                (try rw [Addr.add_zero'] at hx369_0)
                (try rw [show ((0 : Int)).toNat = 0 from rfl] at hx369_1)
                (try rw [show 0 * 4 = 0 from rfl] at hx369_1)
                (try rw [Addr.add_zero'] at hx369_1)
                (try rw [show ((0 : Int)).toNat = 0 from rfl] at hx369_2)
                (try rw [show 0 * 4 = 0 from rfl] at hx369_2)
                (try rw [Addr.add_zero'] at hx369_2)
                (try rw [show ((0 : Int)).toNat = 0 from rfl] at hx369_3)
                (try rw [show 0 * 4 = 0 from rfl] at hx369_3)
                (try rw [Addr.add_zero'] at hx369_3)
                replace p369 := eq_true p369
                replace q369 := eq_true q369
                obtain ⟨Ao67, co67, eo67⟩ := Kd.V_slice HO_1.out
                (first | subst eo67 | (injection eo67 with f1_ f2_ f3_; have f4_ := f1_.symm; have f5_ := f3_.symm; clear f1_ f2_ f3_; subst f4_; subst f5_))
                have p370 : 0 ≤ (0 : Int) := (by omega)
                have q370 : 0 < (x1_2.length : Int) := od
                obtain ⟨ad370, e370, hx370_0, hx370_1, hx370_2, hx370_3⟩ := at_T45 (Kd.V_reads' HO_1.out).2.2 0 p370 q370
                cases e370
                have qi370 : (0 < x1_2.length) = True := eq_true (by omega)
                (try rw [show ((0 : Int)).toNat = 0 from rfl] at hx370_0)
                (try rw [show 0 * 4 = 0 from rfl] at hx370_0)
                (try rw [Addr.add_zero'] at hx370_0)
                (try rw [show ((0 : Int)).toNat = 0 from rfl] at hx370_1)
                (try rw [show 0 * 4 = 0 from rfl] at hx370_1)
                (try rw [Addr.add_zero'] at hx370_1)
                (try rw [show ((0 : Int)).toNat = 0 from rfl] at hx370_2)
                (try rw [show 0 * 4 = 0 from rfl] at hx370_2)
                (try rw [Addr.add_zero'] at hx370_2)
                (try rw [show ((0 : Int)).toNat = 0 from rfl] at hx370_3)
                (try rw [show 0 * 4 = 0 from rfl] at hx370_3)
                (try rw [Addr.add_zero'] at hx370_3)
                replace p370 := eq_true p370
                replace q370 := eq_true q370
                refine start_ (n := 7) (S := fun w' => w'.cell? ad369 = some (.int .i64 ((rd_T45 x0_2 0).f0)) ∧ w'.cell? ⟨ad369.block, ad369.off + 1, none⟩ = some (.string ((rd_T45 x0_2 0).f1)) ∧ w'.cell? ⟨ad369.block, ad369.off + 2, none⟩ = some (.int .i64 ((rd_T45 x0_2 0).f2.f0)) ∧ w'.cell? ⟨ad369.block, ad369.off + 3, none⟩ = some (.bool ((rd_T45 x0_2 0).f2.f1)) ∧ w'.cell? ad370 = some (.int .i64 ((rd_T45 x1_2 0).f0)) ∧ w'.cell? ⟨ad370.block, ad370.off + 1, none⟩ = some (.string ((rd_T45 x1_2 0).f1)) ∧ w'.cell? ⟨ad370.block, ad370.off + 2, none⟩ = some (.int .i64 ((rd_T45 x1_2 0).f2.f0)) ∧ w'.cell? ⟨ad370.block, ad370.off + 3, none⟩ = some (.bool ((rd_T45 x1_2 0).f2.f1))) (ds := []) _ (by kernel_rfl) rfl rfl ⟨hx369_0, hx369_1, hx369_2, hx369_3, hx370_0, hx370_1, hx370_2, hx370_3⟩ (fun hHeld => ?_)
                generalize wc.drew = w65 at HO_0 HO_1 HO_4 HB hx369_0 hx369_1 hx369_2 hx369_3 hx370_0 hx370_1 hx370_2 hx370_3 hHeld ⊢
                refine pure_ (i := 0) (N := some 22) (v := ?_) (a' := ?_) #[true, false, false, false, false, false, false] rfl rfl (by kernel_rfl) (fun _ _ _ h => h) (Or.inl ⟨by rfl, ?_⟩) ?_ ?_
                rotate_left
                ·
                 intro w'
                 go_simp
                 with_reducible rfl
                rotate_left
                ·
                 simp only [Act.put, List.setIfInBounds_toArray, List.set_cons_zero, List.set_cons_succ, i64_w, i32_w]
                 rfl
                refine pure_ (i := 1) (N := some 23) (v := ?_) (a' := ?_) #[true, true, false, false, false, false, false] rfl rfl (by kernel_rfl) (fun _ _ _ h => h) (Or.inl ⟨by rfl, ?_⟩) ?_ ?_
                rotate_left
                ·
                 intro w'
                 go_simp
                 with_reducible rfl
                rotate_left
                ·
                 simp only [Act.put, List.setIfInBounds_toArray, List.set_cons_zero, List.set_cons_succ, i64_w, i32_w]
                 rfl
                refine pure_ (i := 3) (N := some 25) (v := ?_) (a' := ?_) #[true, true, false, true, false, false, false] rfl rfl (by kernel_rfl) (fun _ _ _ h => h) (Or.inl ⟨by rfl, ?_⟩) ?_ ?_
                rotate_left
                ·
                 intro w'
                 go_simp
                 with_reducible rfl
                rotate_left
                ·
                 simp only [Act.put, List.setIfInBounds_toArray, List.set_cons_zero, List.set_cons_succ, i64_w, i32_w]
                 rfl
                refine pure_ (i := 4) (N := some 26) (v := ?_) (a' := ?_) #[true, true, false, true, true, false, false] rfl rfl (by kernel_rfl) (fun _ _ _ h => h) (Or.inl ⟨by rfl, ?_⟩) ?_ ?_
                rotate_left
                ·
                 intro w'
                 go_simp
                 with_reducible rfl
                rotate_left
                ·
                 simp only [Act.put, List.setIfInBounds_toArray, List.set_cons_zero, List.set_cons_succ, i64_w, i32_w]
                 rfl
                refine take_ (i := 2) (N := some 24) (v := ?_) (a' := ?_) #[true, true, true, true, true, false, false] rfl rfl (by kernel_rfl) (fun _ _ _ h => h) (Or.inl ⟨by rfl, ?_⟩) hHeld ?_ ?_
                rotate_left
                ·
                 rintro w' ⟨s0, s1, s2, s3, s4, s5, s6, s7⟩
                 go_simp
                 with_reducible rfl
                rotate_left
                ·
                 simp only [Act.put, List.setIfInBounds_toArray, List.set_cons_zero, List.set_cons_succ, i64_w, i32_w]
                 rfl
                refine take_ (i := 5) (N := some 27) (v := ?_) (a' := ?_) #[true, true, true, true, true, true, false] rfl rfl (by kernel_rfl) (fun _ _ _ h => h) (Or.inl ⟨by rfl, ?_⟩) hHeld ?_ ?_
                rotate_left
                ·
                 rintro w' ⟨s0, s1, s2, s3, s4, s5, s6, s7⟩
                 go_simp
                 with_reducible rfl
                rotate_left
                ·
                 simp only [Act.put, List.setIfInBounds_toArray, List.set_cons_zero, List.set_cons_succ, i64_w, i32_w]
                 rfl
                refine pure_ (i := 6) (N := some 28) (v := ?_) (a' := ?_) #[true, true, true, true, true, true, true] rfl rfl (by kernel_rfl) (fun _ _ _ h => h) (Or.inl ⟨by rfl, ?_⟩) ?_ ?_
                rotate_left
                ·
                 intro w'
                 go_simp
                 with_reducible rfl
                rotate_left
                ·
                 simp only [Act.put, List.setIfInBounds_toArray, List.set_cons_zero, List.set_cons_succ, i64_w, i32_w]
                 rfl
                refine done_ (by kernel_rfl) ?_
                have p371 : 0 ≤ (0 : Int) := (by omega)
                have q371 : 0 < (x1_2.length : Int) := od
                obtain ⟨ad371, e371, hx371_0, hx371_1, hx371_2, hx371_3⟩ := at_T45 (Kd.V_reads' HO_1.out).2.2 0 p371 q371
                obtain rfl : ad370 = ad371 := (by injection e371)
                have qi371 : (0 < x1_2.length) = True := eq_true (by omega)
                (try rw [show ((0 : Int)).toNat = 0 from rfl] at hx371_0)
                (try rw [show 0 * 4 = 0 from rfl] at hx371_0)
                (try rw [Addr.add_zero'] at hx371_0)
                (try rw [show ((0 : Int)).toNat = 0 from rfl] at hx371_1)
                (try rw [show 0 * 4 = 0 from rfl] at hx371_1)
                (try rw [Addr.add_zero'] at hx371_1)
                (try rw [show ((0 : Int)).toNat = 0 from rfl] at hx371_2)
                (try rw [show 0 * 4 = 0 from rfl] at hx371_2)
                (try rw [Addr.add_zero'] at hx371_2)
                (try rw [show ((0 : Int)).toNat = 0 from rfl] at hx371_3)
                (try rw [show 0 * 4 = 0 from rfl] at hx371_3)
                (try rw [Addr.add_zero'] at hx371_3)
                replace p371 := eq_true p371
                replace q371 := eq_true q371
                try go_wp2_with (first | ((with_reducible refine gate_builtin (b := .append) (xs := #[.tmp 29, .tmp 34]) rfl ?_); (try (refine gate_guard (by rfl) ?_; dsimp only)); at_builtin; refine Kd.R_append k48 (w0 := w) w.heap.size rfl (.tmp 29) (.tmp 34) 25 48 (.agg #[(.int .i64 0), (.string ⟨#[]⟩), (.int .i64 0), (.bool false), (.bool false)]) 48 rfl Tryz.underlying25 info48 rfl (by decide) (by omega) u4 x4_2 (⟨(⟨(rd_T45 x1_2 0).f0, (rd_T45 x1_2 0).f1, (⟨(rd_T45 x1_2 0).f2.f0, (rd_T45 x1_2 0).f2.f1⟩ : S43)⟩ : S45), false⟩ : S48) [.int .i64 ((rd_T45 x1_2 0).f0), .string ((rd_T45 x1_2 0).f1), .int .i64 ((rd_T45 x1_2 0).f2.f0), .bool ((rd_T45 x1_2 0).f2.f1), .bool false] (fun k_ => (w.heap.size ≤ k_)) (fun _ => False) rfl rfl ?aP (fun _ hk => hk.elim) ?aF ?aO ?aB ?aS ?aL ?_; (case aP => exact k48_mkM _ _ _ (⟨(⟨(rd_T45 x1_2 0).f0, (rd_T45 x1_2 0).f1, (⟨(rd_T45 x1_2 0).f2.f0, (rd_T45 x1_2 0).f2.f1⟩ : S43)⟩ : S45), false⟩ : S48)); (case aB => exact (uW HB.out)); (case aF => exact (fun k_ hk => (Nat.le_trans (below_size (uW HB.out)) hk))); (case aO => exact (uR HO_4.out)); (case aS => exact (below_size (uW HB.out))); (case aL => have := LMc62.out; omega); intro v373 w68 ho hb hg hat; rw [← Ny372.out] at ho; replace HO_0 := Aside0.mk (Kd.V_afterv (ok := (fun k_ => ((P0_ k_ ∨ P1_ k_) ∨ w.heap.size ≤ k_))) (uV HO_0.out) hg hat); replace HO_1 := Aside0.mk (Kd.V_afterv (ok := (fun k_ => ((P0_ k_ ∨ P1_ k_) ∨ w.heap.size ≤ k_))) (uV HO_1.out) hg hat); replace HB := Aside0.mk (hb); have HO374 := Aside0.mk (ho); clear HO_4; clear ho hb hg hat))
                replace HO_0 := Aside0.mk (Kd.V_drew HO_0.out)
                replace HO_1 := Aside0.mk (Kd.V_drew HO_1.out)
                replace HO374 := Aside0.mk (Kd.R_drew HO374.out)
                replace HB := Aside0.mk (below_drew1 HB.out)
                have q70 : (1 : Int) ≤ ((x0_2.length : Int) : Int) := od
                obtain ⟨i070, hi070, _, hsz70, _⟩ := info_parts info45
                have hroom70 : x0_2.length ≤ co66 := (Kd.V_reads' HO_0.out).2.1
                have hC70 : Kd.F k45 _ _ (some ad369) x0_2.length x0_2 := (Kd.V_at (base := w.heap.size) HO_0.out).2.2
                have hcut70 := cut_from (P := Tryz.prog) 22 45 .i64 Tryz.underlying22 hi070 4 hsz70 (some ad369) x0_2.length co66 1 (by omega) q70
                have hr70 := Kd.F_cut (m := (1 : Int).toNat) (c := co66) hC70 (by omega) hroom70
                obtain ⟨A70, hA70⟩ : ∃ A1, A1 = (if co66 = (1 : Int).toNat then (some ad369) else ((some ad369) : Option Addr).map (·.add ((1 : Int).toNat * 4))) := ⟨_, rfl⟩
                obtain ⟨c70, hc70⟩ : ∃ c1, c1 = co66 - (1 : Int).toNat := ⟨_, rfl⟩
                have hy70 : y375.length = x0_2.length - (1 : Int).toNat := (by rw [Ny375.out, List.length_drop] <;> omega)
                rw [show (x0_2).drop (1 : Int).toNat = y375 from Ny375.out.symm] at hr70
                replace hr70 : Kd.F k45 _ _ A70 y375.length y375 := (by rw [hA70]; exact hr70)
                rw [← hy70, ← hA70, ← hc70] at hcut70
                have HO379 := Aside0.mk (show Kd.V k45 45 _ w.heap.size _ (.slice A70 y375.length c70) y375 from Kd.V_mk (by rw [hy70, hc70]; exact Nat.sub_le_sub_right hroom70 _) hr70)
                have HC379 := Aside0.mk (show y375.length ≤ c70 from by rw [hy70, hc70]; exact Nat.sub_le_sub_right hroom70 _)
                clear hr70 hC70 hroom70 hi070 hsz70 hc70
                have KY70 := Aside0.mk hy70
                have KA70 := Aside0.mk hA70
                clear hy70 hA70
                replace q70 := eq_true q70
                have q71 : (1 : Int) ≤ ((x1_2.length : Int) : Int) := od
                obtain ⟨i071, hi071, _, hsz71, _⟩ := info_parts info45
                have hroom71 : x1_2.length ≤ co67 := (Kd.V_reads' HO_1.out).2.1
                have hC71 : Kd.F k45 _ _ (some ad370) x1_2.length x1_2 := (Kd.V_at (base := w.heap.size) HO_1.out).2.2
                have hcut71 := cut_from (P := Tryz.prog) 22 45 .i64 Tryz.underlying22 hi071 4 hsz71 (some ad370) x1_2.length co67 1 (by omega) q71
                have hr71 := Kd.F_cut (m := (1 : Int).toNat) (c := co67) hC71 (by omega) hroom71
                obtain ⟨A71, hA71⟩ : ∃ A1, A1 = (if co67 = (1 : Int).toNat then (some ad370) else ((some ad370) : Option Addr).map (·.add ((1 : Int).toNat * 4))) := ⟨_, rfl⟩
                obtain ⟨c71, hc71⟩ : ∃ c1, c1 = co67 - (1 : Int).toNat := ⟨_, rfl⟩
                have hy71 : y380.length = x1_2.length - (1 : Int).toNat := (by rw [Ny380.out, List.length_drop] <;> omega)
                rw [show (x1_2).drop (1 : Int).toNat = y380 from Ny380.out.symm] at hr71
                replace hr71 : Kd.F k45 _ _ A71 y380.length y380 := (by rw [hA71]; exact hr71)
                rw [← hy71, ← hA71, ← hc71] at hcut71
                have HO384 := Aside0.mk (show Kd.V k45 45 _ w.heap.size _ (.slice A71 y380.length c71) y380 from Kd.V_mk (by rw [hy71, hc71]; exact Nat.sub_le_sub_right hroom71 _) hr71)
                have HC384 := Aside0.mk (show y380.length ≤ c71 from by rw [hy71, hc71]; exact Nat.sub_le_sub_right hroom71 _)
                clear hr71 hC71 hroom71 hi071 hsz71 hc71
                have KY71 := Aside0.mk hy71
                have KA71 := Aside0.mk hA71
                clear hy71 hA71
                replace q71 := eq_true q71
                refine start_ (n := 6) (S := fun w' => True) (ds := []) _ (by kernel_rfl) rfl rfl trivial (fun hHeld => ?_)
                generalize w68.drew = w69 at HO_0 HO_1 HO374 HB HO379 HO384 hHeld ⊢
                refine pure_ (i := 0) (N := some 36) (v := ?_) (a' := ?_) #[true, false, false, false, false, false] rfl rfl (by kernel_rfl) (fun _ _ _ h => h) (Or.inl ⟨by rfl, ?_⟩) ?_ ?_
                rotate_left
                ·
                 intro w'
                 go_simp
                 with_reducible rfl
                rotate_left
                ·
                 simp only [Act.put, List.setIfInBounds_toArray, List.set_cons_zero, List.set_cons_succ, i64_w, i32_w]
                 rfl
                refine pure_ (i := 1) (N := some 37) (v := ?_) (a' := ?_) #[true, true, false, false, false, false] rfl rfl (by kernel_rfl) (fun _ _ _ h => h) (Or.inl ⟨by rfl, ?_⟩) ?_ ?_
                rotate_left
                ·
                 intro w'
                 go_simp
                 with_reducible rfl
                rotate_left
                ·
                 simp only [Act.put, List.setIfInBounds_toArray, List.set_cons_zero, List.set_cons_succ, i64_w, i32_w]
                 rfl
                refine pure_ (i := 2) (N := some 38) (v := ?_) (a' := ?_) #[true, true, true, false, false, false] rfl rfl (by kernel_rfl) (fun _ _ _ h => h) (Or.inl ⟨by rfl, ?_⟩) ?_ ?_
                rotate_left
                ·
                 intro w'
                 go_simp
                 with_reducible rfl
                rotate_left
                ·
                 simp only [Act.put, List.setIfInBounds_toArray, List.set_cons_zero, List.set_cons_succ, i64_w, i32_w]
                 rfl
                refine pure_ (i := 3) (N := some 39) (v := ?_) (a' := ?_) #[true, true, true, true, false, false] rfl rfl (by kernel_rfl) (fun _ _ _ h => h) (Or.inl ⟨by rfl, ?_⟩) ?_ ?_
                rotate_left
                ·
                 intro w'
                 go_simp
                 with_reducible rfl
                rotate_left
                ·
                 simp only [Act.put, List.setIfInBounds_toArray, List.set_cons_zero, List.set_cons_succ, i64_w, i32_w]
                 rfl
                refine pure_ (i := 4) (N := some 0) (v := ?_) (a' := ?_) #[true, true, true, true, true, false] rfl rfl (by kernel_rfl) (fun _ _ _ h => h) (Or.inl ⟨by rfl, ?_⟩) ?_ ?_
                rotate_left
                ·
                 intro w'
                 go_simp
                 with_reducible rfl
                rotate_left
                ·
                 simp only [Act.put, List.setIfInBounds_toArray, List.set_cons_zero, List.set_cons_succ, i64_w, i32_w]
                 rfl
                refine pure_ (i := 5) (N := some 1) (v := ?_) (a' := ?_) #[true, true, true, true, true, true] rfl rfl (by kernel_rfl) (fun _ _ _ h => h) (Or.inl ⟨by rfl, ?_⟩) ?_ ?_
                rotate_left
                ·
                 intro w'
                 go_simp
                 with_reducible rfl
                rotate_left
                ·
                 simp only [Act.put, List.setIfInBounds_toArray, List.set_cons_zero, List.set_cons_succ, i64_w, i32_w]
                 rfl
                refine done_ (by kernel_rfl) ?_
                try go_wp2
                go_roundg kj40
                case measure => have := HJ2.out; have := HK2.out; have := HJ10.out; have := HJ16.out; have := HJ40.out; omega
                case rel => exact ⟨(y375), (y380), (y372), H', ⟨by have := HJ2.out; have := HK2.out; have := HJ10.out; have := HJ16.out; have := HJ40.out; omega⟩, ⟨uV HO379.out⟩, ⟨uV HO384.out⟩, ⟨uR HO374.out⟩, ⟨uW HB.out⟩⟩
               ·
                rw [if_neg c61] at H
                have c61b0 : (!(((rd_T45 x0_2 0).f0) == ((rd_T45 x1_2 0).f0)) || (!((((rd_T45 x0_2 0).f1).toList) == (((rd_T45 x1_2 0).f1).toList)) || ((!(((rd_T45 x0_2 0).f2.f0) == ((rd_T45 x1_2 0).f2.f0)) || (!(((rd_T45 x0_2 0).f2.f1) == ((rd_T45 x1_2 0).f2.f1))))))) = false := by simpa using c61
                clear c61
                obtain ⟨c72, H⟩ := gd H
                have c72b0 := eq_true c72
                have c72b1 : decide (1 ≤ (x0_2.length : Int)) = true := decide_eq_true c72
                clear c72
                obtain ⟨y385, hy385⟩ : ∃ y_ : List (S45), y_ = (x0_2.drop 1) := ⟨_, rfl⟩
                replace H : (if 1 ≤ (x1_2.length : Int) then (diff_Of.l0 kj40 y385 (x1_2.drop 1) x4_2) else (none)) = some (r1, r2) := by first | (rw [hy385]; with_reducible exact H) | (have H2_ := (Option.bind_some _ _).symm.trans H; rw [hy385]; with_reducible exact H2_) | (have H2_ := (Option.bind_some _ _).symm.trans H; with_reducible exact H2_) | with_reducible exact H | (rw [hy385]; exact H) | exact H
                have Ny385 := Aside0.mk hy385
                clear hy385
                obtain ⟨c73, H⟩ := gd H
                have c73b0 := eq_true c73
                have c73b1 : decide (1 ≤ (x1_2.length : Int)) = true := decide_eq_true c73
                clear c73
                obtain ⟨y390, hy390⟩ : ∃ y_ : List (S45), y_ = (x1_2.drop 1) := ⟨_, rfl⟩
                replace H : (diff_Of.l0 kj40 y385 y390 x4_2) = some (r1, r2) := by first | (rw [hy390]; with_reducible exact H) | (have H2_ := (Option.bind_some _ _).symm.trans H; rw [hy390]; with_reducible exact H2_) | (have H2_ := (Option.bind_some _ _).symm.trans H; with_reducible exact H2_) | with_reducible exact H | (rw [hy390]; exact H) | exact H
                have Ny390 := Aside0.mk hy390
                clear hy390
                have H' := Aside0.mk H
                clear H
                try go_wp2
                replace HO_0 := Aside0.mk (Kd.V_drew HO_0.out)
                replace HO_1 := Aside0.mk (Kd.V_drew HO_1.out)
                replace HO_4 := Aside0.mk (Kd.R_drew HO_4.out)
                replace HB := Aside0.mk (below_drew1 HB.out)
                obtain ⟨Ao75, co75, eo75⟩ := Kd.V_slice HO_0.out
                (first | subst eo75 | (injection eo75 with f1_ f2_ f3_; have f4_ := f1_.symm; have f5_ := f3_.symm; clear f1_ f2_ f3_; subst f4_; subst f5_))
                have p369 : 0 ≤ (0 : Int) := (by omega)
                have q369 : 0 < (x0_2.length : Int) := od
                obtain ⟨ad369, e369, hx369_0, hx369_1, hx369_2, hx369_3⟩ := at_T45 (Kd.V_reads' HO_0.out).2.2 0 p369 q369
                cases e369
                have qi369 : (0 < x0_2.length) = True := eq_true (by omega)
                (try rw [show ((0 : Int)).toNat = 0 from rfl] at hx369_0)
                (try rw [show 0 * 4 = 0 from rfl] at hx369_0)
                (try rw [Addr.add_zero'] at hx369_0)
                (try rw [show ((0 : Int)).toNat = 0 from rfl] at hx369_1)
                (try rw [show 0 * 4 = 0 from rfl] at hx369_1)
                (try rw [Addr.add_zero'] at hx369_1)
                (try rw [show ((0 : Int)).toNat = 0 from rfl] at hx369_2)
                (try rw [show 0 * 4 = 0 from rfl] at hx369_2)
                (try rw [Addr.add_zero'] at hx369_2)
                (try rw [show ((0 : Int)).toNat = 0 from rfl] at hx369_3)
                (try rw [show 0 * 4 = 0 from rfl] at hx369_3)
                (try rw [Addr.add_zero'] at hx369_3)
                replace p369 := eq_true p369
                replace q369 := eq_true q369
                obtain ⟨Ao76, co76, eo76⟩ := Kd.V_slice HO_1.out
                (first | subst eo76 | (injection eo76 with f1_ f2_ f3_; have f4_ := f1_.symm; have f5_ := f3_.symm; clear f1_ f2_ f3_; subst f4_; subst f5_))
                have p370 : 0 ≤ (0 : Int) := (by omega)
                have q370 : 0 < (x1_2.length : Int) := od
                obtain ⟨ad370, e370, hx370_0, hx370_1, hx370_2, hx370_3⟩ := at_T45 (Kd.V_reads' HO_1.out).2.2 0 p370 q370
                cases e370
                have qi370 : (0 < x1_2.length) = True := eq_true (by omega)
                (try rw [show ((0 : Int)).toNat = 0 from rfl] at hx370_0)
                (try rw [show 0 * 4 = 0 from rfl] at hx370_0)
                (try rw [Addr.add_zero'] at hx370_0)
                (try rw [show ((0 : Int)).toNat = 0 from rfl] at hx370_1)
                (try rw [show 0 * 4 = 0 from rfl] at hx370_1)
                (try rw [Addr.add_zero'] at hx370_1)
                (try rw [show ((0 : Int)).toNat = 0 from rfl] at hx370_2)
                (try rw [show 0 * 4 = 0 from rfl] at hx370_2)
                (try rw [Addr.add_zero'] at hx370_2)
                (try rw [show ((0 : Int)).toNat = 0 from rfl] at hx370_3)
                (try rw [show 0 * 4 = 0 from rfl] at hx370_3)
                (try rw [Addr.add_zero'] at hx370_3)
                replace p370 := eq_true p370
                replace q370 := eq_true q370
                refine start_ (n := 7) (S := fun w' => w'.cell? ad369 = some (.int .i64 ((rd_T45 x0_2 0).f0)) ∧ w'.cell? ⟨ad369.block, ad369.off + 1, none⟩ = some (.string ((rd_T45 x0_2 0).f1)) ∧ w'.cell? ⟨ad369.block, ad369.off + 2, none⟩ = some (.int .i64 ((rd_T45 x0_2 0).f2.f0)) ∧ w'.cell? ⟨ad369.block, ad369.off + 3, none⟩ = some (.bool ((rd_T45 x0_2 0).f2.f1)) ∧ w'.cell? ad370 = some (.int .i64 ((rd_T45 x1_2 0).f0)) ∧ w'.cell? ⟨ad370.block, ad370.off + 1, none⟩ = some (.string ((rd_T45 x1_2 0).f1)) ∧ w'.cell? ⟨ad370.block, ad370.off + 2, none⟩ = some (.int .i64 ((rd_T45 x1_2 0).f2.f0)) ∧ w'.cell? ⟨ad370.block, ad370.off + 3, none⟩ = some (.bool ((rd_T45 x1_2 0).f2.f1))) (ds := []) _ (by kernel_rfl) rfl rfl ⟨hx369_0, hx369_1, hx369_2, hx369_3, hx370_0, hx370_1, hx370_2, hx370_3⟩ (fun hHeld => ?_)
                generalize wc.drew = w74 at HO_0 HO_1 HO_4 HB hx369_0 hx369_1 hx369_2 hx369_3 hx370_0 hx370_1 hx370_2 hx370_3 hHeld ⊢
                refine pure_ (i := 0) (N := some 22) (v := ?_) (a' := ?_) #[true, false, false, false, false, false, false] rfl rfl (by kernel_rfl) (fun _ _ _ h => h) (Or.inl ⟨by rfl, ?_⟩) ?_ ?_
                rotate_left
                ·
                 intro w'
                 go_simp
                 with_reducible rfl
                rotate_left
                ·
                 simp only [Act.put, List.setIfInBounds_toArray, List.set_cons_zero, List.set_cons_succ, i64_w, i32_w]
                 rfl
                refine pure_ (i := 1) (N := some 23) (v := ?_) (a' := ?_) #[true, true, false, false, false, false, false] rfl rfl (by kernel_rfl) (fun _ _ _ h => h) (Or.inl ⟨by rfl, ?_⟩) ?_ ?_
                rotate_left
                ·
                 intro w'
                 go_simp
                 with_reducible rfl
                rotate_left
                ·
                 simp only [Act.put, List.setIfInBounds_toArray, List.set_cons_zero, List.set_cons_succ, i64_w, i32_w]
                 rfl
                refine pure_ (i := 3) (N := some 25) (v := ?_) (a' := ?_) #[true, true, false, true, false, false, false] rfl rfl (by kernel_rfl) (fun _ _ _ h => h) (Or.inl ⟨by rfl, ?_⟩) ?_ ?_
                rotate_left
                ·
                 intro w'
                 go_simp
                 with_reducible rfl
                rotate_left
                ·
                 simp only [Act.put, List.setIfInBounds_toArray, List.set_cons_zero, List.set_cons_succ, i64_w, i32_w]
                 rfl
                refine pure_ (i := 4) (N := some 26) (v := ?_) (a' := ?_) #[true, true, false, true, true, false, false] rfl rfl (by kernel_rfl) (fun _ _ _ h => h) (Or.inl ⟨by rfl, ?_⟩) ?_ ?_
                rotate_left
                ·
                 intro w'
                 go_simp
                 with_reducible rfl
                rotate_left
                ·
                 simp only [Act.put, List.setIfInBounds_toArray, List.set_cons_zero, List.set_cons_succ, i64_w, i32_w]
                 rfl
                refine take_ (i := 2) (N := some 24) (v := ?_) (a' := ?_) #[true, true, true, true, true, false, false] rfl rfl (by kernel_rfl) (fun _ _ _ h => h) (Or.inl ⟨by rfl, ?_⟩) hHeld ?_ ?_
                rotate_left
                ·
                 rintro w' ⟨s0, s1, s2, s3, s4, s5, s6, s7⟩
                 go_simp
                 with_reducible rfl
                rotate_left
                ·
                 simp only [Act.put, List.setIfInBounds_toArray, List.set_cons_zero, List.set_cons_succ, i64_w, i32_w]
                 rfl
                refine take_ (i := 5) (N := some 27) (v := ?_) (a' := ?_) #[true, true, true, true, true, true, false] rfl rfl (by kernel_rfl) (fun _ _ _ h => h) (Or.inl ⟨by rfl, ?_⟩) hHeld ?_ ?_
                rotate_left
                ·
                 rintro w' ⟨s0, s1, s2, s3, s4, s5, s6, s7⟩
                 go_simp
                 with_reducible rfl
                rotate_left
                ·
                 simp only [Act.put, List.setIfInBounds_toArray, List.set_cons_zero, List.set_cons_succ, i64_w, i32_w]
                 rfl
                refine pure_ (i := 6) (N := some 28) (v := ?_) (a' := ?_) #[true, true, true, true, true, true, true] rfl rfl (by kernel_rfl) (fun _ _ _ h => h) (Or.inl ⟨by rfl, ?_⟩) ?_ ?_
                rotate_left
                ·
                 intro w'
                 go_simp
                 with_reducible rfl
                rotate_left
                ·
                 simp only [Act.put, List.setIfInBounds_toArray, List.set_cons_zero, List.set_cons_succ, i64_w, i32_w]
                 rfl
                refine done_ (by kernel_rfl) ?_
                try go_wp2
                replace HO_0 := Aside0.mk (Kd.V_drew HO_0.out)
                replace HO_1 := Aside0.mk (Kd.V_drew HO_1.out)
                replace HO_4 := Aside0.mk (Kd.R_drew HO_4.out)
                replace HB := Aside0.mk (below_drew1 HB.out)
                have q78 : (1 : Int) ≤ ((x0_2.length : Int) : Int) := od
                obtain ⟨i078, hi078, _, hsz78, _⟩ := info_parts info45
                have hroom78 : x0_2.length ≤ co75 := (Kd.V_reads' HO_0.out).2.1
                have hC78 : Kd.F k45 _ _ (some ad369) x0_2.length x0_2 := (Kd.V_at (base := w.heap.size) HO_0.out).2.2
                have hcut78 := cut_from (P := Tryz.prog) 22 45 .i64 Tryz.underlying22 hi078 4 hsz78 (some ad369) x0_2.length co75 1 (by omega) q78
                have hr78 := Kd.F_cut (m := (1 : Int).toNat) (c := co75) hC78 (by omega) hroom78
                obtain ⟨A78, hA78⟩ : ∃ A1, A1 = (if co75 = (1 : Int).toNat then (some ad369) else ((some ad369) : Option Addr).map (·.add ((1 : Int).toNat * 4))) := ⟨_, rfl⟩
                obtain ⟨c78, hc78⟩ : ∃ c1, c1 = co75 - (1 : Int).toNat := ⟨_, rfl⟩
                have hy78 : y385.length = x0_2.length - (1 : Int).toNat := (by rw [Ny385.out, List.length_drop] <;> omega)
                rw [show (x0_2).drop (1 : Int).toNat = y385 from Ny385.out.symm] at hr78
                replace hr78 : Kd.F k45 _ _ A78 y385.length y385 := (by rw [hA78]; exact hr78)
                rw [← hy78, ← hA78, ← hc78] at hcut78
                have HO389 := Aside0.mk (show Kd.V k45 45 _ w.heap.size _ (.slice A78 y385.length c78) y385 from Kd.V_mk (by rw [hy78, hc78]; exact Nat.sub_le_sub_right hroom78 _) hr78)
                have HC389 := Aside0.mk (show y385.length ≤ c78 from by rw [hy78, hc78]; exact Nat.sub_le_sub_right hroom78 _)
                clear hr78 hC78 hroom78 hi078 hsz78 hc78
                have KY78 := Aside0.mk hy78
                have KA78 := Aside0.mk hA78
                clear hy78 hA78
                replace q78 := eq_true q78
                have q79 : (1 : Int) ≤ ((x1_2.length : Int) : Int) := od
                obtain ⟨i079, hi079, _, hsz79, _⟩ := info_parts info45
                have hroom79 : x1_2.length ≤ co76 := (Kd.V_reads' HO_1.out).2.1
                have hC79 : Kd.F k45 _ _ (some ad370) x1_2.length x1_2 := (Kd.V_at (base := w.heap.size) HO_1.out).2.2
                have hcut79 := cut_from (P := Tryz.prog) 22 45 .i64 Tryz.underlying22 hi079 4 hsz79 (some ad370) x1_2.length co76 1 (by omega) q79
                have hr79 := Kd.F_cut (m := (1 : Int).toNat) (c := co76) hC79 (by omega) hroom79
                obtain ⟨A79, hA79⟩ : ∃ A1, A1 = (if co76 = (1 : Int).toNat then (some ad370) else ((some ad370) : Option Addr).map (·.add ((1 : Int).toNat * 4))) := ⟨_, rfl⟩
                obtain ⟨c79, hc79⟩ : ∃ c1, c1 = co76 - (1 : Int).toNat := ⟨_, rfl⟩
                have hy79 : y390.length = x1_2.length - (1 : Int).toNat := (by rw [Ny390.out, List.length_drop] <;> omega)
                rw [show (x1_2).drop (1 : Int).toNat = y390 from Ny390.out.symm] at hr79
                replace hr79 : Kd.F k45 _ _ A79 y390.length y390 := (by rw [hA79]; exact hr79)
                rw [← hy79, ← hA79, ← hc79] at hcut79
                have HO394 := Aside0.mk (show Kd.V k45 45 _ w.heap.size _ (.slice A79 y390.length c79) y390 from Kd.V_mk (by rw [hy79, hc79]; exact Nat.sub_le_sub_right hroom79 _) hr79)
                have HC394 := Aside0.mk (show y390.length ≤ c79 from by rw [hy79, hc79]; exact Nat.sub_le_sub_right hroom79 _)
                clear hr79 hC79 hroom79 hi079 hsz79 hc79
                have KY79 := Aside0.mk hy79
                have KA79 := Aside0.mk hA79
                clear hy79 hA79
                replace q79 := eq_true q79
                refine start_ (n := 6) (S := fun w' => True) (ds := []) _ (by kernel_rfl) rfl rfl trivial (fun hHeld => ?_)
                generalize w74.drew = w77 at HO_0 HO_1 HO_4 HB HO389 HO394 hHeld ⊢
                refine pure_ (i := 0) (N := some 36) (v := ?_) (a' := ?_) #[true, false, false, false, false, false] rfl rfl (by kernel_rfl) (fun _ _ _ h => h) (Or.inl ⟨by rfl, ?_⟩) ?_ ?_
                rotate_left
                ·
                 intro w'
                 go_simp
                 with_reducible rfl
                rotate_left
                ·
                 simp only [Act.put, List.setIfInBounds_toArray, List.set_cons_zero, List.set_cons_succ, i64_w, i32_w]
                 rfl
                refine pure_ (i := 1) (N := some 37) (v := ?_) (a' := ?_) #[true, true, false, false, false, false] rfl rfl (by kernel_rfl) (fun _ _ _ h => h) (Or.inl ⟨by rfl, ?_⟩) ?_ ?_
                rotate_left
                ·
                 intro w'
                 go_simp
                 with_reducible rfl
                rotate_left
                ·
                 simp only [Act.put, List.setIfInBounds_toArray, List.set_cons_zero, List.set_cons_succ, i64_w, i32_w]
                 rfl
                refine pure_ (i := 2) (N := some 38) (v := ?_) (a' := ?_) #[true, true, true, false, false, false] rfl rfl (by kernel_rfl) (fun _ _ _ h => h) (Or.inl ⟨by rfl, ?_⟩) ?_ ?_
                rotate_left
                ·
                 intro w'
                 go_simp
                 with_reducible rfl
                rotate_left
                ·
                 simp only [Act.put, List.setIfInBounds_toArray, List.set_cons_zero, List.set_cons_succ, i64_w, i32_w]
                 rfl
                refine pure_ (i := 3) (N := some 39) (v := ?_) (a' := ?_) #[true, true, true, true, false, false] rfl rfl (by kernel_rfl) (fun _ _ _ h => h) (Or.inl ⟨by rfl, ?_⟩) ?_ ?_
                rotate_left
                ·
                 intro w'
                 go_simp
                 with_reducible rfl
                rotate_left
                ·
                 simp only [Act.put, List.setIfInBounds_toArray, List.set_cons_zero, List.set_cons_succ, i64_w, i32_w]
                 rfl
                refine pure_ (i := 4) (N := some 0) (v := ?_) (a' := ?_) #[true, true, true, true, true, false] rfl rfl (by kernel_rfl) (fun _ _ _ h => h) (Or.inl ⟨by rfl, ?_⟩) ?_ ?_
                rotate_left
                ·
                 intro w'
                 go_simp
                 with_reducible rfl
                rotate_left
                ·
                 simp only [Act.put, List.setIfInBounds_toArray, List.set_cons_zero, List.set_cons_succ, i64_w, i32_w]
                 rfl
                refine pure_ (i := 5) (N := some 1) (v := ?_) (a' := ?_) #[true, true, true, true, true, true] rfl rfl (by kernel_rfl) (fun _ _ _ h => h) (Or.inl ⟨by rfl, ?_⟩) ?_ ?_
                rotate_left
                ·
                 intro w'
                 go_simp
                 with_reducible rfl
                rotate_left
                ·
                 simp only [Act.put, List.setIfInBounds_toArray, List.set_cons_zero, List.set_cons_succ, i64_w, i32_w]
                 rfl
                refine done_ (by kernel_rfl) ?_
                try go_wp2
                go_roundg kj40
                case measure => have := HJ2.out; have := HK2.out; have := HJ10.out; have := HJ16.out; have := HJ40.out; omega
                case rel => exact ⟨(y385), (y390), (x4_2), H', ⟨by have := HJ2.out; have := HK2.out; have := HJ10.out; have := HJ16.out; have := HJ40.out; omega⟩, ⟨uV HO389.out⟩, ⟨uV HO394.out⟩, ⟨uR HO_4.out⟩, ⟨uW HB.out⟩⟩
        ·
         replace c16 := Bool.eq_false_iff.mpr c16
         subst c16
         rw [if_neg (show ¬ (false = true) by decide)] at H
         simp only [Option.some.injEq, Prod.mk.injEq] at H
         obtain ⟨rfl, rfl⟩ := H
         go_wp2
         go_ret2
         exact ⟨_, re_, uR HO_4.out, uW HB.out⟩
attribute [local go_sem high] eqA45
def r08_Same.l0 : Nat → List (S45) → List (S45) → Int → Option (Bool)
 | 0, _, _, _ => none
 | k + 1, x0, x1, x5 => if x5 < (x0.length : Int) then (if 0 ≤ x5 then (if x5 < (x1.length : Int) then (if (!(((rd_T45 x0 x5).f0) == ((rd_T45 x1 x5).f0)) || (!((((rd_T45 x0 x5).f1).toList) == (((rd_T45 x1 x5).f1).toList)) || ((!(((rd_T45 x0 x5).f2.f0) == ((rd_T45 x1 x5).f2.f0)) || (!(((rd_T45 x0 x5).f2.f1) == ((rd_T45 x1 x5).f2.f1))))))) = true then (some false) else (r08_Same.l0 k x0 x1 (wrap64 (x5 + 1)))) else (none)) else (none)) else (some true)
def r08_Same.f (k : Nat) (l0 : List (S45)) (l1 : List (S45)) : Option (Bool) := if (l0.length : Int) = (l1.length : Int) then (r08_Same.l0 k l0 l1 0) else (some false)
theorem r08_Same.mono_l : ∀ k, (∀ y0 y1 y2, LeC (r08_Same.l0 k y0 y1 y2) (r08_Same.l0 (k + 1) y0 y1 y2))
 | 0 => fun _ _ _ => ⟨fun r h => by simp [r08_Same.l0] at h⟩
 | k + 1 => by have ih0 := r08_Same.mono_l k; exact fun _ _ _ => by unfold r08_Same.l0; exact lm
theorem r08_Same.mono : ∀ a0 a1 k, LeO (r08_Same.f k a0 a1) (r08_Same.f (k + 1) a0 a1) := by
 intro a0 a1 k
 have ih0 := r08_Same.mono_l k
 unfold r08_Same.f
 exact lo
instance r08_Same.mI {a0 a1 k} : LeC (r08_Same.f k a0 a1) (r08_Same.f (k + 1) a0 a1) := ⟨r08_Same.mono _ _ _⟩
theorem r08_Same.calls (k : Nat) (A0 : Option Addr) (c0 : Nat) (l0 : List (S45)) (A1 : Option Addr) (c1 : Nat) (l1 : List (S45)) (r : Bool) (w : World) (hr0 : Kd.C k45 w A0 l0.length l0) (hc0 : l0.length ≤ c0) (hr1 : Kd.C k45 w A1 l1.length l1) (hc1 : l1.length ≤ c1) (h : r08_Same.f k l0 l1 = some r) :
 Calls Tryz.prog 13 #[.slice A0 l0.length c0, .slice A1 l1.length c1] w fun e w' => e = .returned (.bool r) ∧ Drawn0 w w' := by
 have hu45 := Tryz.underlying45
 have HR0 := Aside0.mk hr0
 have HC0 := Aside0.mk hc0
 clear hr0 hc0
 have HR1 := Aside0.mk hr1
 have HC1 := Aside0.mk hc1
 clear hr1 hc1
 have H : (if (l0.length : Int) = (l1.length : Int) then (r08_Same.l0 k l0 l1 0) else (some false)) = some r := h
 clear h
 by_cases c3 : (l0.length : Int) = (l1.length : Int)
 ·
  rw [if_pos c3] at H
  have c3b0 : ((l0.length : Int) == (l1.length : Int)) = true := beq_iff_eq.mpr c3
  have c3b1 : ((l0.length : Int) != (l1.length : Int)) = false := bne_eq_false_iff_eq.mpr c3
  have c3b2 : (l0.length == l1.length) = true := by first | simpa using c3 | (simp at c3 ⊢; omega)
  clear c3
  have H' := Aside0.mk H
  clear H
  go_enter Tryz.func13, Tryz.ntmps13
  go_wp2
  repeat (go_quiet (fail); try go_wp2)
  go_loopg [5] k (fun kq v5 w' => ∃ (x5_1 : Int), v5 = .int .i64 x5_1 ∧ Aside0 (r08_Same.l0 kq l0 l1 x5_1 = some r) ∧ Aside0 (kq ≤ k) ∧ Drawn0 w w')
  case atStart => exact ⟨(0), rs_, H', ⟨Nat.le_refl _⟩, dr_⟩
  case round =>
   clear H'
   try clear c1
   try clear p2
   try clear c3
   try clear c3b0
   try clear c3b1
   try clear c3b2
   obtain ⟨x5_1, rfl, HA, HK1, ⟨m1, rfl⟩⟩ := hrel
   cases gk with
   | zero => exact absurd HA.out (by simp [r08_Same.l0])
   | succ k1 =>
    have H := HA.out
    clear HA
    simp only [r08_Same.l0] at H
    by_cases c4 : x5_1 < (l0.length : Int)
    ·
     rw [if_pos c4] at H
     have c4b0 : decide (x5_1 < (l0.length : Int)) = true := decide_eq_true c4
     clear c4
     obtain ⟨c5b0, H⟩ := gdd H
     obtain ⟨c6b0, H⟩ := gdd H
     by_cases c7 : (!(((rd_T45 l0 x5_1).f0) == ((rd_T45 l1 x5_1).f0)) || (!((((rd_T45 l0 x5_1).f1).toList) == (((rd_T45 l1 x5_1).f1).toList)) || ((!(((rd_T45 l0 x5_1).f2.f0) == ((rd_T45 l1 x5_1).f2.f0)) || (!(((rd_T45 l0 x5_1).f2.f1) == ((rd_T45 l1 x5_1).f2.f1))))))) = true
     ·
      rw [if_pos c7] at H
      have c7b0 : (!(((rd_T45 l0 x5_1).f0) == ((rd_T45 l1 x5_1).f0)) || (!((((rd_T45 l0 x5_1).f1).toList) == (((rd_T45 l1 x5_1).f1).toList)) || ((!(((rd_T45 l0 x5_1).f2.f0) == ((rd_T45 l1 x5_1).f2.f0)) || (!(((rd_T45 l0 x5_1).f2.f1) == ((rd_T45 l1 x5_1).f2.f1))))))) = true := c7
      clear c7
      obtain rfl := Option.some.inj H
      have p395 : 0 ≤ (x5_1 : Int) := od
      have q395 : x5_1 < (l0.length : Int) := od
      obtain ⟨ad395, e395, hx395_0, hx395_1, hx395_2, hx395_3⟩ := at_T45 HR0.out x5_1 p395 q395
      cases e395
      replace p395 := eq_true p395
      replace q395 := eq_true q395
      have p396 : 0 ≤ (x5_1 : Int) := od
      have q396 : x5_1 < (l1.length : Int) := od
      obtain ⟨ad396, e396, hx396_0, hx396_1, hx396_2, hx396_3⟩ := at_T45 HR1.out x5_1 p396 q396
      cases e396
      replace p396 := eq_true p396
      replace q396 := eq_true q396
      go_wp2
      repeat (go_quiet (fail); try go_wp2)
      go_ret
      exact ⟨rs_, dr_⟩
     ·
      rw [if_neg c7] at H
      have c7b0 : (!(((rd_T45 l0 x5_1).f0) == ((rd_T45 l1 x5_1).f0)) || (!((((rd_T45 l0 x5_1).f1).toList) == (((rd_T45 l1 x5_1).f1).toList)) || ((!(((rd_T45 l0 x5_1).f2.f0) == ((rd_T45 l1 x5_1).f2.f0)) || (!(((rd_T45 l0 x5_1).f2.f1) == ((rd_T45 l1 x5_1).f2.f1))))))) = false := by simpa using c7
      clear c7
      have H' := Aside0.mk H
      clear H
      have p395 : 0 ≤ (x5_1 : Int) := od
      have q395 : x5_1 < (l0.length : Int) := od
      obtain ⟨ad395, e395, hx395_0, hx395_1, hx395_2, hx395_3⟩ := at_T45 HR0.out x5_1 p395 q395
      cases e395
      replace p395 := eq_true p395
      replace q395 := eq_true q395
      have p396 : 0 ≤ (x5_1 : Int) := od
      have q396 : x5_1 < (l1.length : Int) := od
      obtain ⟨ad396, e396, hx396_0, hx396_1, hx396_2, hx396_3⟩ := at_T45 HR1.out x5_1 p396 q396
      cases e396
      replace p396 := eq_true p396
      replace q396 := eq_true q396
      go_wp2
      repeat (go_quiet (fail); try go_wp2)
      go_roundg k1
      case measure => have := HK1.out; omega
      case rel => exact ⟨(wrap64 (x5_1 + 1)), rs_, H', ⟨by have := HK1.out; omega⟩, dr_⟩
    ·
     rw [if_neg c4] at H
     have c4b0 : decide (x5_1 < (l0.length : Int)) = false := decide_eq_false c4
     clear c4
     obtain rfl := Option.some.inj H
     go_wp2
     repeat (go_quiet (fail); try go_wp2)
     go_ret
     exact ⟨rs_, dr_⟩
 ·
  rw [if_neg c3] at H
  have c3b0 : ((l0.length : Int) == (l1.length : Int)) = false := beq_eq_false_iff_ne.mpr c3
  have c3b1 : ((l0.length : Int) != (l1.length : Int)) = true := bne_iff_ne.mpr c3
  have c3b2 : (l0.length == l1.length) = false := by first | simpa using c3 | (simp at c3 ⊢; omega)
  obtain rfl := Option.some.inj H
  go_enter Tryz.func13, Tryz.ntmps13
  go_wp2
  repeat (go_quiet (fail); try go_wp2)
  go_ret
  exact ⟨rs_, dr_⟩
def strconv_FormatInt.f (a0 : Int) (a1 : Int) : Option (ByteArray) := if a1 = 10 ∧ -9223372036854775808 ≤ a0 ∧ a0 ≤ 9223372036854775807 then (some (⟨(Lib.itoa a0).toArray⟩ : ByteArray)) else (none)
theorem strconv_FormatInt.calls (a0 : Int) (a1 : Int) (r : ByteArray) (w : World) (hL : LD w) (h : strconv_FormatInt.f a0 a1 = some r) :
 Calls Tryz.prog 53 #[.int .i64 a0, .int .i64 a1] w fun e w' => e = .returned (.string r) ∧ Below w.heap.size w w' := by
 unfold strconv_FormatInt.f at h
 by_cases hc : a1 = 10 ∧ -9223372036854775808 ≤ a0 ∧ a0 ≤ 9223372036854775807
 ·
  rw [if_pos hc] at h
  obtain rfl := Option.some.inj h
  obtain ⟨rfl, h0, h1⟩ := hc
  refine (Tryz.strconv_FormatInt_10 a0 h0 h1 w hL.pow10).mono ?_
  rintro e w' ⟨rfl, k, os, rfl⟩
  exact ⟨rfl, below_growX w k os⟩
 ·
  rw [if_neg hc] at h
  exact absurd h (by simp)
def sat_Number.f (a0 : Int) : Option (ByteArray) := (strconv_FormatInt.f a0 10).bind fun t397 => (some t397)
theorem sat_Number.calls (a0 : Int) (r : ByteArray) (w : World) (hL : LD w) (h : sat_Number.f a0 = some r) :
 Calls Tryz.prog 31 #[.int .i64 a0] w fun e w' => e = .returned (.string r) ∧ Below w.heap.size w w' := by
 have HL0 := Aside0.mk hL
 clear hL
 have HB := Aside0.mk (Below.refl w.heap.size w)
 have H : ((strconv_FormatInt.f a0 10).bind fun t397 => (some t397)) = some r := h
 clear h
 obtain ⟨t397, A2, H⟩ := bs H
 try dsimp only at H
 obtain rfl := Option.some.inj H
 go_enter Tryz.func31, Tryz.ntmps31
 go_wp2_with (first | (refine gL (some 4) rfl Tryz.func53 #[.int .i64 a0, .int .i64 10] ?_; (with_reducible refine (strconv_FormatInt.calls (hL := ld) a0 10 t397 _ A2.out).mono ?_); rintro e w3 ⟨rfl, hb⟩; refine ⟨_, rfl, ?_⟩; replace HB := cW HB hb; (try clear hb)))
 go_ret
 exact ⟨re_, uW HB.out⟩
def sat_Text.f (a0_0 : Int) (a0_1 : Bool) : Option (ByteArray) := if a0_1 = true then ((sat_Number.f a0_0).bind fun t399 => (if t399.size + 1 ≤ 9223372036854775807 then (some (t399 ++ (⟨#[33]⟩ : ByteArray))) else (none))) else ((sat_Number.f a0_0).bind fun t400 => (some t400))
theorem sat_Text.calls (a0_0 : Int) (a0_1 : Bool) (r : ByteArray) (w : World) (hL : LD w) (h : sat_Text.f a0_0 a0_1 = some r) :
 Calls Tryz.prog 54 #[.agg #[.int .i64 a0_0, .bool a0_1]] w fun e w' => e = .returned (.string r) ∧ Below w.heap.size w w' := by
 have HL0 := Aside0.mk hL
 clear hL
 have hu43 := Tryz.underlying43
 have HB := Aside0.mk (Below.refl w.heap.size w)
 have H : (if a0_1 = true then ((sat_Number.f a0_0).bind fun t399 => (if t399.size + 1 ≤ 9223372036854775807 then (some (t399 ++ (⟨#[33]⟩ : ByteArray))) else (none))) else ((sat_Number.f a0_0).bind fun t400 => (some t400))) = some r := h
 clear h
 by_cases c2 : a0_1 = true
 ·
  subst c2
  rw [if_pos rfl] at H
  obtain ⟨t399, A3, H⟩ := bs H
  try dsimp only at H
  obtain ⟨c4, H⟩ := gd H
  have c4b0 := eq_true c4
  have c4b1 : decide (t399.size + 1 ≤ 9223372036854775807) = true := decide_eq_true c4
  try have c4b2 : (9223372036854775807 < t399.size + 1) = False := eq_false (Nat.not_lt.2 c4)
  obtain rfl := Option.some.inj H
  go_enter Tryz.func54, Tryz.ntmps54
  go_wp2_with (first | ((with_reducible refine gate_dst (N := 1) rfl ?_); refine bx (N := 1) #[.int .i64 a0_0, .bool true] 43 ?_; intro gb398 hg w5 hbox hb; have BK398 := Aside0.mk (hbox); have GW398 := gw hg (uW HB.out); have GE398 := GW398; replace HB := cW HB hb; clear hb hbox hg; obtain ⟨hcz6_0, hcz6_1, hfz6_0, hfz6_1⟩ := z2 BK398) | (refine gL (some 7) rfl Tryz.func31 #[.int .i64 a0_0] ?_; (with_reducible refine (sat_Number.calls (hL := ld) a0_0 t399 _ A3.out).mono ?_); rintro e w7 ⟨rfl, hb⟩; refine ⟨_, rfl, ?_⟩; replace BK398 := cB BK398 hb; replace HB := Aside0.mk (below_step bl hb); (try clear hb)))
  go_ret
  exact ⟨re_, bl⟩
 ·
  replace c2 := Bool.eq_false_iff.mpr c2
  subst c2
  rw [if_neg (show ¬ (false = true) by decide)] at H
  obtain ⟨t400, A8, H⟩ := bs H
  try dsimp only at H
  obtain rfl := Option.some.inj H
  go_enter Tryz.func54, Tryz.ntmps54
  go_wp2_with (first | ((with_reducible refine gate_dst (N := 1) rfl ?_); refine bx (N := 1) #[.int .i64 a0_0, .bool false] 43 ?_; intro gb398 hg w9 hbox hb; have BK398 := Aside0.mk (hbox); have GW398 := gw hg (uW HB.out); have GE398 := GW398; replace HB := cW HB hb; clear hb hbox hg; obtain ⟨hcz10_0, hcz10_1, hfz10_0, hfz10_1⟩ := z2 BK398) | (refine gL (some 11) rfl Tryz.func31 #[.int .i64 a0_0] ?_; (with_reducible refine (sat_Number.calls (hL := ld) a0_0 t400 _ A8.out).mono ?_); rintro e w11 ⟨rfl, hb⟩; refine ⟨_, rfl, ?_⟩; replace BK398 := cB BK398 hb; replace HB := Aside0.mk (below_step bl hb); (try clear hb)))
  go_ret
  exact ⟨re_, bl⟩
def row_Text.l0 : Nat → List ByteArray → List (S45) → Int → Int → Option (ByteArray)
 | 0, _, _, _, _ => none
 | k + 1, x3, x9, x10, x11 => if x11 < x10 then (if 0 ≤ x11 then (if x11 < (x9.length : Int) then ((sat_Number.f ((rd_T45 x9 x11).f0)).bind fun t403 => ((sat_Text.f ((rd_T45 x9 x11).f2.f0) ((rd_T45 x9 x11).f2.f1)).bind fun t404 => ((word_Join.f (⟨#[124]⟩ : ByteArray) (([t403, (rd_T45 x9 x11).f1, t404] : List ByteArray))).bind fun t408 => (if x3.length < 8796093022208 then (row_Text.l0 k (x3 ++ [t408]) x9 x10 (wrap64 (x11 + 1))) else (none))))) else (none)) else (none)) else ((word_Join.f (⟨#[59]⟩ : ByteArray) x3).bind fun t412 => (some t412))
def row_Text.f (k : Nat) (l0 : List (S45)) : Option (ByteArray) := if (l0.length : Int) = 0 then (some (⟨#[45]⟩ : ByteArray)) else (row_Text.l0 k ([] : List ByteArray) l0 (l0.length : Int) 0)
theorem row_Text.mono_l : ∀ k, (∀ y0 y1 y2 y3, LeC (row_Text.l0 k y0 y1 y2 y3) (row_Text.l0 (k + 1) y0 y1 y2 y3))
 | 0 => fun _ _ _ _ => ⟨fun r h => by simp [row_Text.l0] at h⟩
 | k + 1 => by have ih0 := row_Text.mono_l k; exact fun _ _ _ _ => by unfold row_Text.l0; exact lm
theorem row_Text.mono : ∀ a0 k, LeO (row_Text.f k a0) (row_Text.f (k + 1) a0) := by
 intro a0 k
 have ih0 := row_Text.mono_l k
 unfold row_Text.f
 exact lo
instance row_Text.mI {a0 k} : LeC (row_Text.f k a0) (row_Text.f (k + 1) a0) := ⟨row_Text.mono _ _⟩
def row_Text.T7 : Bool × List (List Nat × List Nat) := (true, [([], []), ([], []), ([1], [1]), ([2], [2]), ([], []), ([4], [4]), ([], []), ([6], [6]), ([7, 3], [7]), ([3, 5, 8], [3, 5, 8]), ([9, 8], [9]), ([10], [10]), ([0, 11, 10], [0, 11]), ([12, 12, 0, 1, 2, 3, 4, 5, 6, 7, 8, 9, 10, 11, 12], [0, 12])])
def row_Text.B7 : List Nat := [0, 0, 2, 6, 0, 16, 0, 64, 206, 510, 1022, 2046, 4095, 8191]
theorem row_Text.tab7 : rtab .any (opsOf Tryz.f32 7) = row_Text.T7 := by kernel_rfl
theorem row_Text.bits7 : waitsOk row_Text.T7.2 row_Text.B7 = true := by kernel_rfl
theorem row_Text.calls (k : Nat) (A0 : Option Addr) (c0 : Nat) (l0 : List (S45)) (r : ByteArray) (w : World) (hr0 : Kd.C k45 w A0 l0.length l0) (hc0 : l0.length ≤ c0) (hL : LD w) (h : row_Text.f k l0 = some r) :
 Calls Tryz.prog 32 #[.slice A0 l0.length c0] w fun e w' => e = .returned (.string r) ∧ Below w.heap.size w w' := by
 have HL0 := Aside0.mk hL
 clear hL
 have hu45 := Tryz.underlying45
 have hu43 := Tryz.underlying43
 have HR0 := Aside0.mk hr0
 have HC0 := Aside0.mk hc0
 clear hr0 hc0
 have HB := Aside0.mk (Below.refl w.heap.size w)
 have H : (if (l0.length : Int) = 0 then (some (⟨#[45]⟩ : ByteArray)) else (row_Text.l0 k ([] : List ByteArray) l0 (l0.length : Int) 0)) = some r := h
 clear h
 by_cases c2 : (l0.length : Int) = 0
 ·
  rw [if_pos c2] at H
  have c2b0 : ((l0.length : Int) == 0) = true := beq_iff_eq.mpr c2
  have c2b1 : ((l0.length : Int) != 0) = false := bne_eq_false_iff_eq.mpr c2
  clear c2
  obtain rfl := Option.some.inj H
  go_enter Tryz.func32, Tryz.ntmps32
  go_wp2
  go_ret
  exact ⟨re_, uW HB.out⟩
 ·
  rw [if_neg c2] at H
  have c2b0 : ((l0.length : Int) == 0) = false := beq_eq_false_iff_ne.mpr c2
  have c2b1 : ((l0.length : Int) != 0) = true := bne_iff_ne.mpr c2
  have c2b2 : ¬ (l0 = []) := fun h_ => c2 (by rw [h_]; rfl)
  have H' := Aside0.mk H
  clear H
  go_enter Tryz.func32, Tryz.ntmps32
  go_wp2
  go_loopg [3, 11] k (fun kq v3 v11 w' => ∃ (x3_1 : List ByteArray) (x11_1 : Int), v11 = .int .i64 x11_1 ∧ Aside0 (row_Text.l0 kq x3_1 l0 (l0.length : Int) x11_1 = some r) ∧ Aside0 (kq ≤ k) ∧ Aside0 (Kd.R Kd.string 9 w' w.heap.size (fun _ => True) v3 x3_1) ∧ Aside0 (Below w.heap.size w w'))
  case atStart => exact ⟨(([] : List ByteArray)), (0), rs_, H', ⟨Nat.le_refl _⟩, ⟨nl_⟩, ⟨uW HB.out⟩⟩
  case round =>
   clear H'
   try clear c2
   try clear c2b0
   try clear c2b1
   try clear c2b2
   try clear p2
   obtain ⟨x3_1, x11_1, rfl, HA, HK1, HO_3, HB⟩ := hrel
   cases gk with
   | zero => exact absurd HA.out (by simp [row_Text.l0])
   | succ k1 =>
    have H := HA.out
    clear HA
    simp only [row_Text.l0] at H
    by_cases c3 : x11_1 < (l0.length : Int)
    ·
     rw [if_pos c3] at H
     have c3b0 : decide (x11_1 < (l0.length : Int)) = true := decide_eq_true c3
     clear c3
     obtain ⟨c4b0, H⟩ := gdd H
     obtain ⟨c5b0, H⟩ := gdd H
     obtain ⟨t403, A6, H⟩ := bs H
     try dsimp only at H
     obtain ⟨t404, A7, H⟩ := bs H
     try dsimp only at H
     obtain ⟨y405, hy405⟩ : ∃ y_ : List ByteArray, y_ = (([t403, (rd_T45 l0 x11_1).f1, t404] : List ByteArray)) := ⟨_, rfl⟩
     replace H : ((word_Join.f (⟨#[124]⟩ : ByteArray) y405).bind fun t408 => (if x3_1.length < 8796093022208 then (row_Text.l0 k1 (x3_1 ++ [t408]) l0 (l0.length : Int) (wrap64 (x11_1 + 1))) else (none))) = some r := by first | (rw [hy405]; with_reducible exact H) | (have H2_ := (Option.bind_some _ _).symm.trans H; rw [hy405]; with_reducible exact H2_) | (have H2_ := (Option.bind_some _ _).symm.trans H; with_reducible exact H2_) | with_reducible exact H | (rw [hy405]; exact H) | exact H
     have Ny405 := Aside0.mk hy405
     clear hy405
     obtain ⟨t408, A8, H⟩ := bs H
     try dsimp only at H
     obtain ⟨c9, H⟩ := gd H
     have LMc9 := Aside0.mk c9
     clear c9
     obtain ⟨y409, hy409⟩ : ∃ y_ : List ByteArray, y_ = (x3_1 ++ [t408]) := ⟨_, rfl⟩
     replace H : (row_Text.l0 k1 y409 l0 (l0.length : Int) (wrap64 (x11_1 + 1))) = some r := by first | (rw [hy409]; with_reducible exact H) | (have H2_ := (Option.bind_some _ _).symm.trans H; rw [hy409]; with_reducible exact H2_) | (have H2_ := (Option.bind_some _ _).symm.trans H; with_reducible exact H2_) | with_reducible exact H | (rw [hy409]; exact H) | exact H
     have Ny409 := Aside0.mk hy409
     clear hy409
     have H' := Aside0.mk H
     clear H
     have p401 : 0 ≤ (x11_1 : Int) := od
     have q401 : x11_1 < (l0.length : Int) := od
     obtain ⟨ad401, e401, hx401_0, hx401_1, hx401_2, hx401_3⟩ := at_T45 HR0.out x11_1 p401 q401
     cases e401
     replace hx401_0 := kc HB hx401_0
     replace hx401_1 := kc HB hx401_1
     replace hx401_2 := kc HB hx401_2
     replace hx401_3 := kc HB hx401_3
     replace p401 := eq_true p401
     replace q401 := eq_true q401
     try go_wp2_with (first | ((with_reducible refine gate_dst (N := 5) rfl ?_); refine bx (N := 5) #[.int .i64 0, .string (⟨#[]⟩ : ByteArray), .int .i64 0, .bool false] 45 ?_; intro gb402 hg w10 hbox hb; replace HO_3 := cR HO_3 hb; have BK402 := Aside0.mk (hbox); have GW402 := gw hg (uW HB.out); have GE402 := GW402; replace HB := cW HB hb; clear hb hbox hg; obtain ⟨hcz11_0, hcz11_1, hcz11_2, hcz11_3, hfz11_0, hfz11_1, hfz11_2, hfz11_3⟩ := z4 BK402))
     have n0_ : Aside0 (Kd.R Kd.string 9 ((((w10.setCell ⟨gb402, 0, none⟩ (.int .i64 ((rd_T45 l0 x11_1).f0))).setCell ⟨gb402, 1, none⟩ (.string ((rd_T45 l0 x11_1).f1))).setCell ⟨gb402, 2, none⟩ (.int .i64 ((rd_T45 l0 x11_1).f2.f0))).setCell ⟨gb402, 3, none⟩ (.bool ((rd_T45 l0 x11_1).f2.f1))) w.heap.size (fun _ => True) u3 x3_1) := ⟨by exact uR <| Kd.R_mono (Kd.R_far (p := ⟨gb402, 3, none⟩) (Kd.R_far (p := ⟨gb402, 2, none⟩) (Kd.R_far (p := ⟨gb402, 1, none⟩) (Kd.R_far (p := ⟨gb402, 0, none⟩) (Kd.R_types HO_3.out BK402.out (by decide)) (fun _ hk => hk.2) (.int .i64 ((rd_T45 l0 x11_1).f0))) (fun _ hk => hk.2) (.string ((rd_T45 l0 x11_1).f1))) (fun _ hk => hk.2) (.int .i64 ((rd_T45 l0 x11_1).f2.f0))) (fun _ hk => hk.2) (.bool ((rd_T45 l0 x11_1).f2.f1))) (fun _ hk => trivial)⟩
     have n1_ : Aside0 (((((w10.setCell ⟨gb402, 0, none⟩ (.int .i64 ((rd_T45 l0 x11_1).f0))).setCell ⟨gb402, 1, none⟩ (.string ((rd_T45 l0 x11_1).f1))).setCell ⟨gb402, 2, none⟩ (.int .i64 ((rd_T45 l0 x11_1).f2.f0))).setCell ⟨gb402, 3, none⟩ (.bool ((rd_T45 l0 x11_1).f2.f1))).heap[gb402]? = some (.cells #[.int .i64 ((rd_T45 l0 x11_1).f0), .string ((rd_T45 l0 x11_1).f1), .int .i64 ((rd_T45 l0 x11_1).f2.f0), .bool ((rd_T45 l0 x11_1).f2.f1)] 45 (0, 0))) := ⟨by (with_reducible repeat (first | refine blk_drewN ?_ _ | refine blk_drew ?_ | refine blk_alloc ?_ _)); refine blk_put (cs := #[.int .i64 ((rd_T45 l0 x11_1).f0), .string ((rd_T45 l0 x11_1).f1), .int .i64 ((rd_T45 l0 x11_1).f2.f0), .bool false]) ?_ 3 _ rfl; (with_reducible repeat (first | refine blk_drewN ?_ _ | refine blk_drew ?_ | refine blk_alloc ?_ _)); refine blk_put (cs := #[.int .i64 ((rd_T45 l0 x11_1).f0), .string ((rd_T45 l0 x11_1).f1), .int .i64 0, .bool false]) ?_ 2 _ rfl; (with_reducible repeat (first | refine blk_drewN ?_ _ | refine blk_drew ?_ | refine blk_alloc ?_ _)); refine blk_put (cs := #[.int .i64 ((rd_T45 l0 x11_1).f0), .string (⟨#[]⟩ : ByteArray), .int .i64 0, .bool false]) ?_ 1 _ rfl; (with_reducible repeat (first | refine blk_drewN ?_ _ | refine blk_drew ?_ | refine blk_alloc ?_ _)); refine blk_put (cs := #[.int .i64 0, .string (⟨#[]⟩ : ByteArray), .int .i64 0, .bool false]) ?_ 0 _ rfl; exact uB <| BK402.out⟩
     have n2_ : Aside0 (Below w.heap.size w ((((w10.setCell ⟨gb402, 0, none⟩ (.int .i64 ((rd_T45 l0 x11_1).f0))).setCell ⟨gb402, 1, none⟩ (.string ((rd_T45 l0 x11_1).f1))).setCell ⟨gb402, 2, none⟩ (.int .i64 ((rd_T45 l0 x11_1).f2.f0))).setCell ⟨gb402, 3, none⟩ (.bool ((rd_T45 l0 x11_1).f2.f1)))) := ⟨bl⟩
     (try clear HO_3)
     (try clear BK402)
     (try clear HB)
     generalize ((((w10.setCell ⟨gb402, 0, none⟩ (.int .i64 ((rd_T45 l0 x11_1).f0))).setCell ⟨gb402, 1, none⟩ (.string ((rd_T45 l0 x11_1).f1))).setCell ⟨gb402, 2, none⟩ (.int .i64 ((rd_T45 l0 x11_1).f2.f0))).setCell ⟨gb402, 3, none⟩ (.bool ((rd_T45 l0 x11_1).f2.f1))) = w12 at n0_ n1_ n2_ ⊢
     have HO_3 := n0_
     have BK402 := n1_
     have HB := n2_
     clear n0_ n1_ n2_
     replace HO_3 := Aside0.mk (Kd.R_drew HO_3.out)
     replace BK402 := Aside0.mk (blk_drew BK402.out)
     replace HB := Aside0.mk (below_drew1 HB.out)
     refine start_ (n := 14) (S := fun w' => w'.cell? ⟨gb402, 0, none⟩ = some (.int .i64 ((rd_T45 l0 x11_1).f0)) ∧ w'.cell? ⟨gb402, 1, none⟩ = some (.string ((rd_T45 l0 x11_1).f1)) ∧ w'.cell? ⟨gb402, 2, none⟩ = some (.int .i64 ((rd_T45 l0 x11_1).f2.f0)) ∧ w'.cell? ⟨gb402, 3, none⟩ = some (.bool ((rd_T45 l0 x11_1).f2.f1))) (ds := []) _ (by kernel_rfl) rfl rfl ⟨(blk_cell BK402.out 0).trans rfl, (blk_cell BK402.out 1).trans rfl, (blk_cell BK402.out 2).trans rfl, (blk_cell BK402.out 3).trans rfl⟩ (fun hHeld => ?_); refine with_tabW row_Text.tab7 row_Text.bits7 (fun HT_ HW_ => ?_)
     generalize w12.drew = w13 at HO_3 BK402 HB hHeld ⊢
     refine p1 0 (some 15) ?_
     refine p1 1 (some 16) ?_
     refine p1 4 (some 19) ?_
     refine p1 6 (some 21) ?_
     refine t1 2 (some 17) rfl rfl hHeld (Or.inl ⟨by rfl, by rintro w' ⟨s0, s1, s2, s3⟩; go_simp; with_reducible rfl⟩) ?_
     refine t1 5 (some 20) rfl rfl hHeld (Or.inl ⟨by rfl, by rintro w' ⟨s0, s1, s2, s3⟩; go_simp; with_reducible rfl⟩) ?_
     refine t1 7 (some 22) rfl rfl hHeld (Or.inl ⟨by rfl, by rintro w' ⟨s0, s1, s2, s3⟩; go_simp; with_reducible rfl⟩) ?_
     refine o1 3 (some 18) rfl rfl (fun K hK => ?_)
     refine gS Tryz.func31 #[.int .i64 ((rd_T45 l0 x11_1).f0)] ?_
     with_reducible refine (sat_Number.calls (hL := ld) ((rd_T45 l0 x11_1).f0) t403 _ A6.out).mono ?_
     rintro e w14 ⟨rfl, hb⟩
     refine ⟨_, rfl, ?_⟩
     replace HO_3 := cR HO_3 hb
     replace BK402 := cB BK402 hb
     replace HB := Aside0.mk (below_step bl hb)
     (try clear hb)
     refine hK.out _ _ ⟨(blk_cell BK402.out 0).trans rfl, (blk_cell BK402.out 1).trans rfl, (blk_cell BK402.out 2).trans rfl, (blk_cell BK402.out 3).trans rfl⟩ (fun hHeld => ?_)
     clear hK K
     refine norm_ (a' := ?_) ?_ ?_
     rotate_left
     ·
      show Act.put _ (some 18) _ = _
      simp only [Act.put, List.setIfInBounds_toArray, List.set_cons_zero, List.set_cons_succ, i64_w, i32_w]
      rfl
     refine o1 8 (some 23) rfl rfl (fun K hK => ?_)
     refine gS Tryz.func54 #[.agg #[.int .i64 ((rd_T45 l0 x11_1).f2.f0), .bool ((rd_T45 l0 x11_1).f2.f1)]] ?_
     with_reducible refine (sat_Text.calls (hL := ld) ((rd_T45 l0 x11_1).f2.f0) ((rd_T45 l0 x11_1).f2.f1) t404 _ A7.out).mono ?_
     rintro e w15 ⟨rfl, hb⟩
     refine ⟨_, rfl, ?_⟩
     replace HO_3 := cR HO_3 hb
     replace BK402 := cB BK402 hb
     replace HB := Aside0.mk (below_step bl hb)
     (try clear hb)
     refine hK.out _ _ ⟨(blk_cell BK402.out 0).trans rfl, (blk_cell BK402.out 1).trans rfl, (blk_cell BK402.out 2).trans rfl, (blk_cell BK402.out 3).trans rfl⟩ (fun hHeld => ?_)
     clear hK K
     refine norm_ (a' := ?_) ?_ ?_
     rotate_left
     ·
      show Act.put _ (some 23) _ = _
      simp only [Act.put, List.setIfInBounds_toArray, List.set_cons_zero, List.set_cons_succ, i64_w, i32_w]
      rfl
     refine o1 9 (some 24) rfl rfl (fun K hK => ?_)
     refine Kd.R_lit_step Kd.string _ 9 ?hg (N := 24) ?hd (xs := ([t403, (rd_T45 l0 x11_1).f1, t404] : List ByteArray)) (inner := [.string t403, .string ((rd_T45 l0 x11_1).f1), .string t404]) (ok := fun _ => True) (okp := fun _ => True) ?hr ?hp (fun _ hk => hk) trivial (Below.refl _ _) (Nat.le_refl _) (by simp) ?_; (case hd => rfl); (case hg => rfl); (case hr => first | (go_simp; done) | (go_simp; rfl)); (case hp => exact (Reps.one (show Kd.M Kd.string _ _ _ t403 [.string t403] from rfl) (Reps.one (show Kd.M Kd.string _ _ _ ((rd_T45 l0 x11_1).f1) [.string ((rd_T45 l0 x11_1).f1)] from rfl) (Reps.one (show Kd.M Kd.string _ _ _ t404 [.string t404] from rfl) (Reps.none _ _)))))
     intro v406 w16 ho17 hb hg_ hnew_
     clear hg_ hnew_
     (first | rw [← Ny405.out] at ho17 | (simp only [Int.reduceToNat] at ho17; rw [← Ny405.out] at ho17))
     have HO407 := Aside0.mk (Kd.R_lower (Kd.R_new' ho17 (Kd.R_lt (uR HO_3.out))) (below_size bl))
     replace HO_3 := Aside0.mk (Kd.R_elder' (uR HO_3.out) (Kd.R_base ho17) hb)
     replace BK402 := cB BK402 hb
     replace HB := Aside0.mk (below_step bl hb)
     clear hb ho17
     obtain ⟨Ao18, co18, eo18⟩ := Kd.R_slice HO407.out
     (first | subst eo18 | (injection eo18 with f1_ f2_ f3_; have f4_ := f1_.symm; have f5_ := f3_.symm; clear f1_ f2_ f3_; subst f4_; subst f5_))
     refine hK.out _ _ ⟨(blk_cell BK402.out 0).trans rfl, (blk_cell BK402.out 1).trans rfl, (blk_cell BK402.out 2).trans rfl, (blk_cell BK402.out 3).trans rfl⟩ (fun hHeld => ?_)
     clear hK K
     refine norm_ (a' := ?_) ?_ ?_
     rotate_left
     ·
      show Act.put _ (some 24) _ = _
      simp only [Act.put, List.setIfInBounds_toArray, List.set_cons_zero, List.set_cons_succ, i64_w, i32_w]
      rfl
     refine o1 10 (some 25) rfl rfl (fun K hK => ?_)
     refine gS Tryz.func30 #[.string (⟨#[124]⟩ : ByteArray), .slice Ao18 y405.length co18] ?_
     with_reducible refine (word_Join.calls (⟨#[124]⟩ : ByteArray) _ _ y405 t408 _ ?side1 ?side2 A8.out).mono ?_
     (case side1 => exact uC <| (Kd.R_reads' HO407.out).2.2)
     (case side2 => exact (Kd.R_reads' HO407.out).2.1)
     rintro e w19 ⟨rfl, hb⟩
     refine ⟨_, rfl, ?_⟩
     replace HO_3 := cR HO_3 hb
     replace HO407 := cR HO407 hb
     replace BK402 := cB BK402 hb
     replace HB := Aside0.mk (below_step bl hb)
     (try clear hb)
     refine hK.out _ _ ⟨(blk_cell BK402.out 0).trans rfl, (blk_cell BK402.out 1).trans rfl, (blk_cell BK402.out 2).trans rfl, (blk_cell BK402.out 3).trans rfl⟩ (fun hHeld => ?_)
     clear hK K
     refine norm_ (a' := ?_) ?_ ?_
     rotate_left
     ·
      show Act.put _ (some 25) _ = _
      simp only [Act.put, List.setIfInBounds_toArray, List.set_cons_zero, List.set_cons_succ, i64_w, i32_w]
      rfl
     refine o1 11 (some 26) rfl rfl (fun K hK => ?_)
     refine value_ (w1 := ?_) (v := ?_) (by rfl) rfl ?_ ?_
     rotate_left 2
     ·
      go_simp
      constructor
      ·
       rfl
      ·
       rfl
     refine hK.out _ _ ⟨(blk_cell (blk_alloc BK402.out _) 0).trans rfl, (blk_cell (blk_alloc BK402.out _) 1).trans rfl, (blk_cell (blk_alloc BK402.out _) 2).trans rfl, (blk_cell (blk_alloc BK402.out _) 3).trans rfl⟩ (fun hHeld => ?_)
     clear hK K
     refine norm_ (a' := ?_) ?_ ?_
     rotate_left
     ·
      show Act.put _ (some 26) _ = _
      simp only [Act.put, List.setIfInBounds_toArray, List.set_cons_zero, List.set_cons_succ, i64_w, i32_w]
      rfl
     refine o1 12 (some 27) rfl rfl (fun K hK => ?_)
     refine Kd.R_append_step Kd.string (w0 := w) w.heap.size (by rfl) (.tmp 15) (.tmp 26) 52 9 (.string ⟨#[]⟩) 16 rfl Tryz.underlying52 info9 rfl (by decide) (by omega) u3 x3_1 t408 [.string t408] (fun k_ => some k_ ≠ (.slice Ao18 y405.length co18 : Value).ownBlock) (fun _ => False) rfl rfl ?aP (fun _ hk => hk.elim) ?aF ?aO ?aB ?aS ?aL ?_
     (case aP => exact rfl)
     (case aB => exact bl)
     (case aF => exact (fun k_ hk => Kd.fresh' (Kd.R_lt (uR HO407.out)) k_ hk))
     (case aO => exact (by exact uR <| Kd.R_mono HO_3.out (fun _ hk => hk.2)))
     (case aS => exact (below_size bl))
     (case aL => have := LMc9.out; omega)
     intro v410 w20 ho hb hg hat
     rw [← Ny409.out] at ho
     replace BK402 := Aside0.mk (blk_grown (g := gb402) (o := .cells #[.int .i64 ((rd_T45 l0 x11_1).f0), .string ((rd_T45 l0 x11_1).f1), .int .i64 ((rd_T45 l0 x11_1).f2.f0), .bool ((rd_T45 l0 x11_1).f2.f1)] 45 (0, 0)) (uB BK402.out) hg (Kd.R_ne HO_3.out BK402.out (by decide)))
     replace HO407 := Aside0.mk (Kd.R_after (ok := (fun _ => True)) (uR HO407.out) hg hat)
     replace HB := Aside0.mk (hb)
     have HO411 := Aside0.mk (ho)
     clear HO_3
     clear ho hb hg hat
     refine hK.out _ _ ⟨(blk_cell BK402.out 0).trans rfl, (blk_cell BK402.out 1).trans rfl, (blk_cell BK402.out 2).trans rfl, (blk_cell BK402.out 3).trans rfl⟩ (fun hHeld => ?_)
     clear hK K
     refine norm_ (a' := ?_) ?_ ?_
     rotate_left
     ·
      show Act.put _ (some 27) _ = _
      simp only [Act.put, List.setIfInBounds_toArray, List.set_cons_zero, List.set_cons_succ, i64_w, i32_w]
      rfl
     refine p1 13 (some 3) ?_
     refine done_ (done_of HT_.out (by kernel_rfl)) ?_
     try go_wp2
     go_roundg k1
     case measure => have := HK1.out; omega
     case rel => exact ⟨(y409), (wrap64 (x11_1 + 1)), rs_, H', ⟨by have := HK1.out; omega⟩, ⟨by exact uR <| Kd.R_mono HO411.out (fun _ hk => trivial)⟩, ⟨bl⟩⟩
    ·
     rw [if_neg c3] at H
     have c3b0 : decide (x11_1 < (l0.length : Int)) = false := decide_eq_false c3
     clear c3
     obtain ⟨t412, A21, H⟩ := bs H
     try dsimp only at H
     obtain rfl := Option.some.inj H
     obtain ⟨Ao22, co22, eo22⟩ := Kd.R_slice HO_3.out
     subst eo22
     go_wp2_with (first | (refine gL (some 30) rfl Tryz.func30 #[.string (⟨#[59]⟩ : ByteArray), .slice Ao22 x3_1.length co22] ?_; (with_reducible refine (word_Join.calls (⟨#[59]⟩ : ByteArray) _ _ x3_1 t412 _ ?side1 ?side2 A21.out).mono ?_); (case side1 => exact uC <| (Kd.R_reads' HO_3.out).2.2); (case side2 => exact (Kd.R_reads' HO_3.out).2.1); rintro e w23 ⟨rfl, hb⟩; refine ⟨_, rfl, ?_⟩; replace HO_3 := cR HO_3 hb; replace HB := cW HB hb; (try clear hb)))
     go_ret
     exact ⟨re_, uW HB.out⟩
end Go.Proofs.YtgcbejidponoaaaGreatDoor.X
