/- Printed by a program of this session's own: what functions of the program compute, and that the machine computes it. No condition of its own. -/
import Derived.Test.YtgcbejidponoaaaGreatDoorM3
import Derived.Test.YtgcbejidponoaaaGreatDoorM9
namespace Go.Proofs.YtgcbejidponoaaaGreatDoor.X
open Go.RowKit Go.Proofs.YtgcbejidponoaaaGreatDoorW.PrintWords Go.Proofs.YtgcbejidponoaaaGreatDoorW.PrintLast Go.Proofs.YtgcbejidponoaaaGreatDoorW.PrintMore
attribute [local go_sem] max2_int min2_int max_two min_two max_three min_three max_four min_four
set_option linter.unusedVariables false
set_option linter.unusedSimpArgs false
set_option maxHeartbeats 8000000
set_option maxRecDepth 100000
mutual
def r02_Name.j0 : Nat → ByteArray → Bool → Option (Bool)
 | 0, _, _ => none
 | k + 1, x0, x17 => if x17 = true then (some false) else (r02_Name.l0 k x0 0)
def r02_Name.l0 : Nat → ByteArray → Int → Option (Bool)
 | 0, _, _ => none
 | k + 1, x0, x3 => if x3 < (x0.size : Int) then (if 0 ≤ x3 then ((r02_small.f (bt x0 x3)).bind fun t435 => (if t435 = true then (r02_Name.l0 k x0 (wrap64 (x3 + 1))) else ((r02_digit.f (bt x0 x3)).bind fun t436 => (if t436 = true then (r02_Name.l0 k x0 (wrap64 (x3 + 1))) else (if (bt x0 x3) = 95 then (r02_Name.l0 k x0 (wrap64 (x3 + 1))) else (some false)))))) else (none)) else (some true)
end
def r02_Name.f (k : Nat) (a0 : ByteArray) : Option (Bool) := if (a0.size : Int) < 1 then (r02_Name.j0 k a0 true) else (if (a0.size : Int) > 12 then (r02_Name.j0 k a0 true) else (if 0 < (a0.size : Int) then ((r02_small.f (bt a0 0)).bind fun t434 => (r02_Name.j0 k a0 (!t434))) else (none)))
theorem r02_Name.mono_l : ∀ k, (∀ y0 y1, LeC (r02_Name.j0 k y0 y1) (r02_Name.j0 (k + 1) y0 y1)) ∧ (∀ y0 y1, LeC (r02_Name.l0 k y0 y1) (r02_Name.l0 (k + 1) y0 y1))
 | 0 => ⟨fun _ _ => ⟨fun r h => by simp [r02_Name.j0] at h⟩, fun _ _ => ⟨fun r h => by simp [r02_Name.l0] at h⟩⟩
 | k + 1 => by obtain ⟨ih0, ih1⟩ := r02_Name.mono_l k; exact ⟨fun _ _ => by unfold r02_Name.j0; exact lm, fun _ _ => by unfold r02_Name.l0; exact lm⟩
theorem r02_Name.mono : ∀ a0 k, LeO (r02_Name.f k a0) (r02_Name.f (k + 1) a0) := by
 intro a0 k
 obtain ⟨ih0, ih1⟩ := r02_Name.mono_l k
 unfold r02_Name.f
 exact lo
instance r02_Name.mI {a0 k} : LeC (r02_Name.f k a0) (r02_Name.f (k + 1) a0) := ⟨r02_Name.mono _ _⟩
theorem r02_Name.calls (k : Nat) (a0 : ByteArray) (r : Bool) (w : World) (h : r02_Name.f k a0 = some r) :
 Calls Tryz.prog 116 #[.string a0] w fun e w' => e = .returned (.bool r) ∧ Drawn0 w w' := by
 have H : (if (a0.size : Int) < 1 then (r02_Name.j0 k a0 true) else (if (a0.size : Int) > 12 then (r02_Name.j0 k a0 true) else (if 0 < (a0.size : Int) then ((r02_small.f (bt a0 0)).bind fun t434 => (r02_Name.j0 k a0 (!t434))) else (none)))) = some r := h
 clear h
 have HC2 := Aside0.mk H
 clear H
 go_enter Tryz.func116, Tryz.ntmps116
 go_upto_region 1 with (fail)
 go_cut [17] (fun v17 wc => ∃ (kq : Nat) (x17_1 : Bool), v17 = .bool x17_1 ∧ Aside0 (r02_Name.j0 kq a0 x17_1 = some r) ∧ Aside0 (kq ≤ k) ∧ Drawn0 w wc)
 case first =>
  have H := HC2.out
  clear HC2
  by_cases c3 : (a0.size : Int) < 1
  ·
   rw [if_pos c3] at H
   have c3b0 : decide ((a0.size : Int) < 1) = true := decide_eq_true c3
   have c3b1 : decide (a0.size < 1) = true := decide_eq_true (by omega)
   clear c3
   (first | rw [c3b0] | (simp only [i64_w, i32_w]; rw [c3b0]) | skip)
   have H' := Aside0.mk H
   clear H
   go_wp2
   go_meet
   case rel => exact ⟨_, (true), rs_, H', ⟨by first | omega | exact Nat.le_refl _⟩, dr_⟩
  ·
   rw [if_neg c3] at H
   have c3b0 : decide ((a0.size : Int) < 1) = false := decide_eq_false c3
   have c3b1 : decide (a0.size < 1) = false := decide_eq_false (by omega)
   clear c3
   (first | rw [c3b0] | (simp only [i64_w, i32_w]; rw [c3b0]) | skip)
   by_cases c4 : (a0.size : Int) > 12
   ·
    rw [if_pos c4] at H
    have c4b0 : decide (12 < (a0.size : Int)) = true := decide_eq_true c4
    have c4b1 : decide (12 < a0.size) = true := decide_eq_true (by omega)
    clear c4
    have H' := Aside0.mk H
    clear H
    go_wp2
    go_meet
    case rel => exact ⟨_, (true), rs_, H', ⟨by first | omega | exact Nat.le_refl _⟩, dr_⟩
   ·
    rw [if_neg c4] at H
    have c4b0 : decide (12 < (a0.size : Int)) = false := decide_eq_false c4
    have c4b1 : decide (12 < a0.size) = false := decide_eq_false (by omega)
    clear c4
    obtain ⟨c5, H⟩ := gd H
    have c5b0 : decide (0 < (a0.size : Int)) = true := decide_eq_true c5
    have c5b1 : decide (0 < a0.size) = true := decide_eq_true (by omega)
    clear c5
    obtain ⟨t434, A7, H⟩ := bs H
    try dsimp only at H
    have H' := Aside0.mk H
    clear H
    have p6 : 0 ≤ (0 : Int) := (by omega)
    have q6 : 0 < a0.size := (by have : (0 : Int) < (a0.size : Int) := od; omega)
    have hx6 : ∀ h : 0 < a0.size, ((a0[0]'h).toNat : Int) = bt a0 0 := bt_at a0 0
    clear p6
    have qi6 : (0 < (a0.size : Int)) = True := eq_true (od)
    replace q6 := eq_true q6
    go_wp2_with (first | (go_at_call 139; (with_reducible refine (r02_small.calls (bt a0 0) t434 _ A7.out).mono ?_); rintro e w' ⟨rfl, ⟨nd, rfl⟩⟩))
    go_meet
    case rel => exact ⟨_, (!t434), rs_, H', ⟨by first | omega | exact Nat.le_refl _⟩, dr_⟩
 case rest =>
  clear HC2
  try clear c1
  try clear p2
  try clear c3
  try clear c3b0
  try clear c3b1
  try clear c4
  try clear c4b0
  try clear c4b1
  try clear c5
  try clear c5b0
  try clear c5b1
  try clear p6
  try clear q6
  try clear hx6
  try clear qi6
  try clear p6
  try clear q6
  obtain ⟨kq, x17_1, rfl, HA, HJ1, ⟨mc1, rfl⟩⟩ := hcut
  cases kq with
  | zero => exact absurd HA.out (by simp [r02_Name.j0])
  | succ kj1 =>
   have H := HA.out
   clear HA
   simp only [r02_Name.j0] at H
   by_cases c8 : x17_1 = true
   ·
    subst c8
    rw [if_pos rfl] at H
    obtain rfl := Option.some.inj H
    go_wp2
    go_ret
    exact ⟨rs_, dr_⟩
   ·
    replace c8 := Bool.eq_false_iff.mpr c8
    subst c8
    rw [if_neg (show ¬ (false = true) by decide)] at H
    have H' := Aside0.mk H
    clear H
    go_wp2
    go_loopg [3] kj1 (fun kq v3 w' => ∃ (x3_2 : Int), v3 = .int .i64 x3_2 ∧ Aside0 (r02_Name.l0 kq a0 x3_2 = some r) ∧ Aside0 (kq ≤ kj1) ∧ Drawn0 w w')
    case atStart => exact ⟨(0), rs_, H', ⟨Nat.le_refl _⟩, dr_⟩
    case round =>
     clear H'
     try clear c1
     try clear p2
     try clear c3
     try clear c3b0
     try clear c3b1
     try clear c4
     try clear c4b0
     try clear c4b1
     try clear c5
     try clear c5b0
     try clear c5b1
     try clear p6
     try clear q6
     try clear hx6
     try clear qi6
     try clear c8
     try clear p2
     try clear p6
     try clear q6
     obtain ⟨x3_2, rfl, HA, HK2, ⟨m2, rfl⟩⟩ := hrel
     cases gk with
     | zero => exact absurd HA.out (by simp [r02_Name.l0])
     | succ k2 =>
      have H := HA.out
      clear HA
      simp only [r02_Name.l0] at H
      by_cases c9 : x3_2 < (a0.size : Int)
      ·
       rw [if_pos c9] at H
       have c9b0 : decide (x3_2 < (a0.size : Int)) = true := decide_eq_true c9
       clear c9
       obtain ⟨c10b0, H⟩ := gdd H
       obtain ⟨t435, A12, H⟩ := bs H
       try dsimp only at H
       by_cases c13 : t435 = true
       ·
        subst c13
        rw [if_pos rfl] at H
        have H' := Aside0.mk H
        clear H
        have p11 : 0 ≤ (x3_2 : Int) := od
        have q11 : x3_2 < (a0.size : Int) := od
        have hx11 := bt_at a0 x3_2
        replace p11 := eq_true p11
        replace q11 := eq_true q11
        go_wp2_with (first | (refine gL (some 27) rfl Tryz.func139 #[.int .u8 (bt a0 x3_2)] ?_; (with_reducible refine (r02_small.calls (bt a0 x3_2) true _ A12.out).mono ?_); rintro e w' ⟨rfl, ⟨nd, rfl⟩⟩; refine ⟨_, rfl, ?_⟩))
        go_roundg k2
        case measure => have := HJ1.out; have := HK2.out; omega
        case rel => exact ⟨(wrap64 (x3_2 + 1)), rs_, H', ⟨by have := HJ1.out; have := HK2.out; omega⟩, dr_⟩
       ·
        replace c13 := Bool.eq_false_iff.mpr c13
        subst c13
        rw [if_neg (show ¬ (false = true) by decide)] at H
        obtain ⟨t436, A15, H⟩ := bs H
        try dsimp only at H
        by_cases c16 : t436 = true
        ·
         subst c16
         rw [if_pos rfl] at H
         have H' := Aside0.mk H
         clear H
         have p11 : 0 ≤ (x3_2 : Int) := od
         have q11 : x3_2 < (a0.size : Int) := od
         have hx11 := bt_at a0 x3_2
         replace p11 := eq_true p11
         replace q11 := eq_true q11
         go_wp2_with (first | (refine gL (some 27) rfl Tryz.func139 #[.int .u8 (bt a0 x3_2)] ?_; (with_reducible refine (r02_small.calls (bt a0 x3_2) false _ A12.out).mono ?_); rintro e w' ⟨rfl, ⟨nd, rfl⟩⟩; refine ⟨_, rfl, ?_⟩; have p14 : 0 ≤ (x3_2 : Int) := od; have q14 : x3_2 < (a0.size : Int) := od; have hx14 := bt_at a0 x3_2; replace p14 := eq_true p14; replace q14 := eq_true q14) | (go_at_call 140; (with_reducible refine (r02_digit.calls (bt a0 x3_2) true _ A15.out).mono ?_); rintro e w' ⟨rfl, ⟨nd, rfl⟩⟩))
         go_roundg k2
         case measure => have := HJ1.out; have := HK2.out; omega
         case rel => exact ⟨(wrap64 (x3_2 + 1)), rs_, H', ⟨by have := HJ1.out; have := HK2.out; omega⟩, dr_⟩
        ·
         replace c16 := Bool.eq_false_iff.mpr c16
         subst c16
         rw [if_neg (show ¬ (false = true) by decide)] at H
         by_cases c18 : (bt a0 x3_2) = 95
         ·
          rw [if_pos c18] at H
          have c18b0 : ((bt a0 x3_2) == 95) = true := beq_iff_eq.mpr c18
          have c18b1 : ((bt a0 x3_2) != 95) = false := bne_eq_false_iff_eq.mpr c18
          clear c18
          have H' := Aside0.mk H
          clear H
          have p11 : 0 ≤ (x3_2 : Int) := od
          have q11 : x3_2 < (a0.size : Int) := od
          have hx11 := bt_at a0 x3_2
          replace p11 := eq_true p11
          replace q11 := eq_true q11
          go_wp2_with (first | (refine gL (some 27) rfl Tryz.func139 #[.int .u8 (bt a0 x3_2)] ?_; (with_reducible refine (r02_small.calls (bt a0 x3_2) false _ A12.out).mono ?_); rintro e w' ⟨rfl, ⟨nd, rfl⟩⟩; refine ⟨_, rfl, ?_⟩; have p14 : 0 ≤ (x3_2 : Int) := od; have q14 : x3_2 < (a0.size : Int) := od; have hx14 := bt_at a0 x3_2; replace p14 := eq_true p14; replace q14 := eq_true q14) | (go_at_call 140; (with_reducible refine (r02_digit.calls (bt a0 x3_2) false _ A15.out).mono ?_); rintro e w' ⟨rfl, ⟨nd, rfl⟩⟩; have p17 : 0 ≤ (x3_2 : Int) := od; have q17 : x3_2 < (a0.size : Int) := od; have hx17 := bt_at a0 x3_2; replace p17 := eq_true p17; replace q17 := eq_true q17))
          go_roundg k2
          case measure => have := HJ1.out; have := HK2.out; omega
          case rel => exact ⟨(wrap64 (x3_2 + 1)), rs_, H', ⟨by have := HJ1.out; have := HK2.out; omega⟩, dr_⟩
         ·
          rw [if_neg c18] at H
          have c18b0 : ((bt a0 x3_2) == 95) = false := beq_eq_false_iff_ne.mpr c18
          have c18b1 : ((bt a0 x3_2) != 95) = true := bne_iff_ne.mpr c18
          obtain rfl := Option.some.inj H
          have p11 : 0 ≤ (x3_2 : Int) := od
          have q11 : x3_2 < (a0.size : Int) := od
          have hx11 := bt_at a0 x3_2
          replace p11 := eq_true p11
          replace q11 := eq_true q11
          go_wp2_with (first | (refine gL (some 27) rfl Tryz.func139 #[.int .u8 (bt a0 x3_2)] ?_; (with_reducible refine (r02_small.calls (bt a0 x3_2) false _ A12.out).mono ?_); rintro e w' ⟨rfl, ⟨nd, rfl⟩⟩; refine ⟨_, rfl, ?_⟩; have p14 : 0 ≤ (x3_2 : Int) := od; have q14 : x3_2 < (a0.size : Int) := od; have hx14 := bt_at a0 x3_2; replace p14 := eq_true p14; replace q14 := eq_true q14) | (go_at_call 140; (with_reducible refine (r02_digit.calls (bt a0 x3_2) false _ A15.out).mono ?_); rintro e w' ⟨rfl, ⟨nd, rfl⟩⟩; have p17 : 0 ≤ (x3_2 : Int) := od; have q17 : x3_2 < (a0.size : Int) := od; have hx17 := bt_at a0 x3_2; replace p17 := eq_true p17; replace q17 := eq_true q17))
          go_ret
          exact ⟨rs_, dr_⟩
      ·
       rw [if_neg c9] at H
       have c9b0 : decide (x3_2 < (a0.size : Int)) = false := decide_eq_false c9
       clear c9
       obtain rfl := Option.some.inj H
       go_wp2
       go_ret
       exact ⟨rs_, dr_⟩
mutual
def r02_Value.j0 : Nat → ByteArray → Bool → Option (Bool)
 | 0, _, _ => none
 | k + 1, x0, x11 => if x11 = true then (some false) else (r02_Value.l0 k x0 0)
def r02_Value.l0 : Nat → ByteArray → Int → Option (Bool)
 | 0, _, _ => none
 | k + 1, x0, x3 => if x3 < (x0.size : Int) then (if 0 ≤ x3 then ((r02_small.f (bt x0 x3)).bind fun t437 => (if t437 = true then (r02_Value.l0 k x0 (wrap64 (x3 + 1))) else ((r02_digit.f (bt x0 x3)).bind fun t438 => (if t438 = true then (r02_Value.l0 k x0 (wrap64 (x3 + 1))) else (if (bt x0 x3) = 95 then (r02_Value.l0 k x0 (wrap64 (x3 + 1))) else (if (bt x0 x3) = 45 then (r02_Value.l0 k x0 (wrap64 (x3 + 1))) else (if (bt x0 x3) = 46 then (r02_Value.l0 k x0 (wrap64 (x3 + 1))) else (some false)))))))) else (none)) else (some true)
end
def r02_Value.f (k : Nat) (a0 : ByteArray) : Option (Bool) := if (a0.size : Int) < 1 then (r02_Value.j0 k a0 true) else (r02_Value.j0 k a0 (decide ((a0.size : Int) > 12)))
theorem r02_Value.mono_l : ∀ k, (∀ y0 y1, LeC (r02_Value.j0 k y0 y1) (r02_Value.j0 (k + 1) y0 y1)) ∧ (∀ y0 y1, LeC (r02_Value.l0 k y0 y1) (r02_Value.l0 (k + 1) y0 y1))
 | 0 => ⟨fun _ _ => ⟨fun r h => by simp [r02_Value.j0] at h⟩, fun _ _ => ⟨fun r h => by simp [r02_Value.l0] at h⟩⟩
 | k + 1 => by obtain ⟨ih0, ih1⟩ := r02_Value.mono_l k; exact ⟨fun _ _ => by unfold r02_Value.j0; exact lm, fun _ _ => by unfold r02_Value.l0; exact lm⟩
theorem r02_Value.mono : ∀ a0 k, LeO (r02_Value.f k a0) (r02_Value.f (k + 1) a0) := by
 intro a0 k
 obtain ⟨ih0, ih1⟩ := r02_Value.mono_l k
 unfold r02_Value.f
 exact lo
instance r02_Value.mI {a0 k} : LeC (r02_Value.f k a0) (r02_Value.f (k + 1) a0) := ⟨r02_Value.mono _ _⟩
theorem r02_Value.calls (k : Nat) (a0 : ByteArray) (r : Bool) (w : World) (h : r02_Value.f k a0 = some r) :
 Calls Tryz.prog 117 #[.string a0] w fun e w' => e = .returned (.bool r) ∧ Drawn0 w w' := by
 have H : (if (a0.size : Int) < 1 then (r02_Value.j0 k a0 true) else (r02_Value.j0 k a0 (decide ((a0.size : Int) > 12)))) = some r := h
 clear h
 have HC2 := Aside0.mk H
 clear H
 go_enter Tryz.func117, Tryz.ntmps117
 go_upto_region 1 with (fail)
 go_cut [11] (fun v11 wc => ∃ (kq : Nat) (x11_1 : Bool), v11 = .bool x11_1 ∧ Aside0 (r02_Value.j0 kq a0 x11_1 = some r) ∧ Aside0 (kq ≤ k) ∧ Drawn0 w wc)
 case first =>
  have H := HC2.out
  clear HC2
  by_cases c3 : (a0.size : Int) < 1
  ·
   rw [if_pos c3] at H
   have c3b0 : decide ((a0.size : Int) < 1) = true := decide_eq_true c3
   have c3b1 : decide (a0.size < 1) = true := decide_eq_true (by omega)
   clear c3
   (first | rw [c3b0] | (simp only [i64_w, i32_w]; rw [c3b0]) | skip)
   have H' := Aside0.mk H
   clear H
   go_wp2
   go_meet
   case rel => exact ⟨_, (true), rs_, H', ⟨by first | omega | exact Nat.le_refl _⟩, dr_⟩
  ·
   rw [if_neg c3] at H
   have c3b0 : decide ((a0.size : Int) < 1) = false := decide_eq_false c3
   have c3b1 : decide (a0.size < 1) = false := decide_eq_false (by omega)
   clear c3
   (first | rw [c3b0] | (simp only [i64_w, i32_w]; rw [c3b0]) | skip)
   have H' := Aside0.mk H
   clear H
   go_wp2
   go_meet
   case rel => exact ⟨_, (decide ((a0.size : Int) > 12)), rs_, H', ⟨by first | omega | exact Nat.le_refl _⟩, dr_⟩
 case rest =>
  clear HC2
  try clear c1
  try clear p2
  try clear c3
  try clear c3b0
  try clear c3b1
  obtain ⟨kq, x11_1, rfl, HA, HJ1, ⟨mc1, rfl⟩⟩ := hcut
  cases kq with
  | zero => exact absurd HA.out (by simp [r02_Value.j0])
  | succ kj1 =>
   have H := HA.out
   clear HA
   simp only [r02_Value.j0] at H
   by_cases c4 : x11_1 = true
   ·
    subst c4
    rw [if_pos rfl] at H
    obtain rfl := Option.some.inj H
    go_wp2
    go_ret
    exact ⟨rs_, dr_⟩
   ·
    replace c4 := Bool.eq_false_iff.mpr c4
    subst c4
    rw [if_neg (show ¬ (false = true) by decide)] at H
    have H' := Aside0.mk H
    clear H
    go_wp2
    go_loopg [3] kj1 (fun kq v3 w' => ∃ (x3_2 : Int), v3 = .int .i64 x3_2 ∧ Aside0 (r02_Value.l0 kq a0 x3_2 = some r) ∧ Aside0 (kq ≤ kj1) ∧ Drawn0 w w')
    case atStart => exact ⟨(0), rs_, H', ⟨Nat.le_refl _⟩, dr_⟩
    case round =>
     clear H'
     try clear c1
     try clear p2
     try clear c3
     try clear c3b0
     try clear c3b1
     try clear c4
     try clear p2
     obtain ⟨x3_2, rfl, HA, HK2, ⟨m2, rfl⟩⟩ := hrel
     cases gk with
     | zero => exact absurd HA.out (by simp [r02_Value.l0])
     | succ k2 =>
      have H := HA.out
      clear HA
      simp only [r02_Value.l0] at H
      by_cases c5 : x3_2 < (a0.size : Int)
      ·
       rw [if_pos c5] at H
       have c5b0 : decide (x3_2 < (a0.size : Int)) = true := decide_eq_true c5
       clear c5
       obtain ⟨c6b0, H⟩ := gdd H
       obtain ⟨t437, A8, H⟩ := bs H
       try dsimp only at H
       by_cases c9 : t437 = true
       ·
        subst c9
        rw [if_pos rfl] at H
        have H' := Aside0.mk H
        clear H
        have p7 : 0 ≤ (x3_2 : Int) := od
        have q7 : x3_2 < (a0.size : Int) := od
        have hx7 := bt_at a0 x3_2
        replace p7 := eq_true p7
        replace q7 := eq_true q7
        go_wp2_with (first | (refine gL (some 21) rfl Tryz.func139 #[.int .u8 (bt a0 x3_2)] ?_; (with_reducible refine (r02_small.calls (bt a0 x3_2) true _ A8.out).mono ?_); rintro e w' ⟨rfl, ⟨nd, rfl⟩⟩; refine ⟨_, rfl, ?_⟩))
        go_roundg k2
        case measure => have := HJ1.out; have := HK2.out; omega
        case rel => exact ⟨(wrap64 (x3_2 + 1)), rs_, H', ⟨by have := HJ1.out; have := HK2.out; omega⟩, dr_⟩
       ·
        replace c9 := Bool.eq_false_iff.mpr c9
        subst c9
        rw [if_neg (show ¬ (false = true) by decide)] at H
        obtain ⟨t438, A11, H⟩ := bs H
        try dsimp only at H
        by_cases c12 : t438 = true
        ·
         subst c12
         rw [if_pos rfl] at H
         have H' := Aside0.mk H
         clear H
         have p7 : 0 ≤ (x3_2 : Int) := od
         have q7 : x3_2 < (a0.size : Int) := od
         have hx7 := bt_at a0 x3_2
         replace p7 := eq_true p7
         replace q7 := eq_true q7
         go_wp2_with (first | (refine gL (some 21) rfl Tryz.func139 #[.int .u8 (bt a0 x3_2)] ?_; (with_reducible refine (r02_small.calls (bt a0 x3_2) false _ A8.out).mono ?_); rintro e w' ⟨rfl, ⟨nd, rfl⟩⟩; refine ⟨_, rfl, ?_⟩; have p10 : 0 ≤ (x3_2 : Int) := od; have q10 : x3_2 < (a0.size : Int) := od; have hx10 := bt_at a0 x3_2; replace p10 := eq_true p10; replace q10 := eq_true q10) | (go_at_call 140; (with_reducible refine (r02_digit.calls (bt a0 x3_2) true _ A11.out).mono ?_); rintro e w' ⟨rfl, ⟨nd, rfl⟩⟩))
         go_roundg k2
         case measure => have := HJ1.out; have := HK2.out; omega
         case rel => exact ⟨(wrap64 (x3_2 + 1)), rs_, H', ⟨by have := HJ1.out; have := HK2.out; omega⟩, dr_⟩
        ·
         replace c12 := Bool.eq_false_iff.mpr c12
         subst c12
         rw [if_neg (show ¬ (false = true) by decide)] at H
         by_cases c14 : (bt a0 x3_2) = 95
         ·
          rw [if_pos c14] at H
          have c14b0 : ((bt a0 x3_2) == 95) = true := beq_iff_eq.mpr c14
          have c14b1 : ((bt a0 x3_2) != 95) = false := bne_eq_false_iff_eq.mpr c14
          clear c14
          have H' := Aside0.mk H
          clear H
          have p7 : 0 ≤ (x3_2 : Int) := od
          have q7 : x3_2 < (a0.size : Int) := od
          have hx7 := bt_at a0 x3_2
          replace p7 := eq_true p7
          replace q7 := eq_true q7
          go_wp2_with (first | (refine gL (some 21) rfl Tryz.func139 #[.int .u8 (bt a0 x3_2)] ?_; (with_reducible refine (r02_small.calls (bt a0 x3_2) false _ A8.out).mono ?_); rintro e w' ⟨rfl, ⟨nd, rfl⟩⟩; refine ⟨_, rfl, ?_⟩; have p10 : 0 ≤ (x3_2 : Int) := od; have q10 : x3_2 < (a0.size : Int) := od; have hx10 := bt_at a0 x3_2; replace p10 := eq_true p10; replace q10 := eq_true q10) | (go_at_call 140; (with_reducible refine (r02_digit.calls (bt a0 x3_2) false _ A11.out).mono ?_); rintro e w' ⟨rfl, ⟨nd, rfl⟩⟩; have p13 : 0 ≤ (x3_2 : Int) := od; have q13 : x3_2 < (a0.size : Int) := od; have hx13 := bt_at a0 x3_2; replace p13 := eq_true p13; replace q13 := eq_true q13))
          go_roundg k2
          case measure => have := HJ1.out; have := HK2.out; omega
          case rel => exact ⟨(wrap64 (x3_2 + 1)), rs_, H', ⟨by have := HJ1.out; have := HK2.out; omega⟩, dr_⟩
         ·
          rw [if_neg c14] at H
          have c14b0 : ((bt a0 x3_2) == 95) = false := beq_eq_false_iff_ne.mpr c14
          have c14b1 : ((bt a0 x3_2) != 95) = true := bne_iff_ne.mpr c14
          by_cases c16 : (bt a0 x3_2) = 45
          ·
           rw [if_pos c16] at H
           have c16b0 : ((bt a0 x3_2) == 45) = true := beq_iff_eq.mpr c16
           have c16b1 : ((bt a0 x3_2) != 45) = false := bne_eq_false_iff_eq.mpr c16
           clear c16
           have H' := Aside0.mk H
           clear H
           have p7 : 0 ≤ (x3_2 : Int) := od
           have q7 : x3_2 < (a0.size : Int) := od
           have hx7 := bt_at a0 x3_2
           replace p7 := eq_true p7
           replace q7 := eq_true q7
           go_wp2_with (first | (refine gL (some 21) rfl Tryz.func139 #[.int .u8 (bt a0 x3_2)] ?_; (with_reducible refine (r02_small.calls (bt a0 x3_2) false _ A8.out).mono ?_); rintro e w' ⟨rfl, ⟨nd, rfl⟩⟩; refine ⟨_, rfl, ?_⟩; have p10 : 0 ≤ (x3_2 : Int) := od; have q10 : x3_2 < (a0.size : Int) := od; have hx10 := bt_at a0 x3_2; replace p10 := eq_true p10; replace q10 := eq_true q10) | (go_at_call 140; (with_reducible refine (r02_digit.calls (bt a0 x3_2) false _ A11.out).mono ?_); rintro e w' ⟨rfl, ⟨nd, rfl⟩⟩; have p13 : 0 ≤ (x3_2 : Int) := od; have q13 : x3_2 < (a0.size : Int) := od; have hx13 := bt_at a0 x3_2; replace p13 := eq_true p13; replace q13 := eq_true q13; have p15 : 0 ≤ (x3_2 : Int) := od; have q15 : x3_2 < (a0.size : Int) := od; have hx15 := bt_at a0 x3_2; replace p15 := eq_true p15; replace q15 := eq_true q15))
           go_roundg k2
           case measure => have := HJ1.out; have := HK2.out; omega
           case rel => exact ⟨(wrap64 (x3_2 + 1)), rs_, H', ⟨by have := HJ1.out; have := HK2.out; omega⟩, dr_⟩
          ·
           rw [if_neg c16] at H
           have c16b0 : ((bt a0 x3_2) == 45) = false := beq_eq_false_iff_ne.mpr c16
           have c16b1 : ((bt a0 x3_2) != 45) = true := bne_iff_ne.mpr c16
           by_cases c18 : (bt a0 x3_2) = 46
           ·
            rw [if_pos c18] at H
            have c18b0 : ((bt a0 x3_2) == 46) = true := beq_iff_eq.mpr c18
            have c18b1 : ((bt a0 x3_2) != 46) = false := bne_eq_false_iff_eq.mpr c18
            clear c18
            have H' := Aside0.mk H
            clear H
            have p7 : 0 ≤ (x3_2 : Int) := od
            have q7 : x3_2 < (a0.size : Int) := od
            have hx7 := bt_at a0 x3_2
            replace p7 := eq_true p7
            replace q7 := eq_true q7
            go_wp2_with (first | (refine gL (some 21) rfl Tryz.func139 #[.int .u8 (bt a0 x3_2)] ?_; (with_reducible refine (r02_small.calls (bt a0 x3_2) false _ A8.out).mono ?_); rintro e w' ⟨rfl, ⟨nd, rfl⟩⟩; refine ⟨_, rfl, ?_⟩; have p10 : 0 ≤ (x3_2 : Int) := od; have q10 : x3_2 < (a0.size : Int) := od; have hx10 := bt_at a0 x3_2; replace p10 := eq_true p10; replace q10 := eq_true q10) | (go_at_call 140; (with_reducible refine (r02_digit.calls (bt a0 x3_2) false _ A11.out).mono ?_); rintro e w' ⟨rfl, ⟨nd, rfl⟩⟩; have p13 : 0 ≤ (x3_2 : Int) := od; have q13 : x3_2 < (a0.size : Int) := od; have hx13 := bt_at a0 x3_2; replace p13 := eq_true p13; replace q13 := eq_true q13; have p15 : 0 ≤ (x3_2 : Int) := od; have q15 : x3_2 < (a0.size : Int) := od; have hx15 := bt_at a0 x3_2; replace p15 := eq_true p15; replace q15 := eq_true q15; have p17 : 0 ≤ (x3_2 : Int) := od; have q17 : x3_2 < (a0.size : Int) := od; have hx17 := bt_at a0 x3_2; replace p17 := eq_true p17; replace q17 := eq_true q17))
            go_roundg k2
            case measure => have := HJ1.out; have := HK2.out; omega
            case rel => exact ⟨(wrap64 (x3_2 + 1)), rs_, H', ⟨by have := HJ1.out; have := HK2.out; omega⟩, dr_⟩
           ·
            rw [if_neg c18] at H
            have c18b0 : ((bt a0 x3_2) == 46) = false := beq_eq_false_iff_ne.mpr c18
            have c18b1 : ((bt a0 x3_2) != 46) = true := bne_iff_ne.mpr c18
            obtain rfl := Option.some.inj H
            have p7 : 0 ≤ (x3_2 : Int) := od
            have q7 : x3_2 < (a0.size : Int) := od
            have hx7 := bt_at a0 x3_2
            replace p7 := eq_true p7
            replace q7 := eq_true q7
            go_wp2_with (first | (refine gL (some 21) rfl Tryz.func139 #[.int .u8 (bt a0 x3_2)] ?_; (with_reducible refine (r02_small.calls (bt a0 x3_2) false _ A8.out).mono ?_); rintro e w' ⟨rfl, ⟨nd, rfl⟩⟩; refine ⟨_, rfl, ?_⟩; have p10 : 0 ≤ (x3_2 : Int) := od; have q10 : x3_2 < (a0.size : Int) := od; have hx10 := bt_at a0 x3_2; replace p10 := eq_true p10; replace q10 := eq_true q10) | (go_at_call 140; (with_reducible refine (r02_digit.calls (bt a0 x3_2) false _ A11.out).mono ?_); rintro e w' ⟨rfl, ⟨nd, rfl⟩⟩; have p13 : 0 ≤ (x3_2 : Int) := od; have q13 : x3_2 < (a0.size : Int) := od; have hx13 := bt_at a0 x3_2; replace p13 := eq_true p13; replace q13 := eq_true q13; have p15 : 0 ≤ (x3_2 : Int) := od; have q15 : x3_2 < (a0.size : Int) := od; have hx15 := bt_at a0 x3_2; replace p15 := eq_true p15; replace q15 := eq_true q15; have p17 : 0 ≤ (x3_2 : Int) := od; have q17 : x3_2 < (a0.size : Int) := od; have hx17 := bt_at a0 x3_2; replace p17 := eq_true p17; replace q17 := eq_true q17))
            go_ret
            exact ⟨rs_, dr_⟩
      ·
       rw [if_neg c5] at H
       have c5b0 : decide (x3_2 < (a0.size : Int)) = false := decide_eq_false c5
       clear c5
       obtain rfl := Option.some.inj H
       go_wp2
       go_ret
       exact ⟨rs_, dr_⟩
def r03_may.f (k : Nat) (a0_0 : ByteArray) (a0_1 : ByteArray) : Option (Bool) := (r02_Name.f k a0_0).bind fun t440 => (if t440 = true then ((r02_Value.f k a0_1).bind fun t441 => (some t441)) else (some false))
theorem r03_may.mono : ∀ a0 a1 k, LeO (r03_may.f k a0 a1) (r03_may.f (k + 1) a0 a1) := by
 intro a0 a1 k
 unfold r03_may.f
 exact lo
instance r03_may.mI {a0 a1 k} : LeC (r03_may.f k a0 a1) (r03_may.f (k + 1) a0 a1) := ⟨r03_may.mono _ _ _⟩
theorem r03_may.calls (k : Nat) (a0_0 : ByteArray) (a0_1 : ByteArray) (r : Bool) (w : World) (h : r03_may.f k a0_0 a0_1 = some r) :
 Calls Tryz.prog 95 #[.agg #[.string a0_0, .string a0_1]] w fun e w' => e = .returned (.bool r) ∧ Below w.heap.size w w' := by
 have hu98 := Tryz.underlying98
 have HB := Aside0.mk (Below.refl w.heap.size w)
 have H : ((r02_Name.f k a0_0).bind fun t440 => (if t440 = true then ((r02_Value.f k a0_1).bind fun t441 => (some t441)) else (some false))) = some r := h
 clear h
 obtain ⟨t440, A2, H⟩ := bs H
 try dsimp only at H
 by_cases c3 : t440 = true
 ·
  subst c3
  rw [if_pos rfl] at H
  obtain ⟨t441, A4, H⟩ := bs H
  try dsimp only at H
  obtain rfl := Option.some.inj H
  go_enter Tryz.func95, Tryz.ntmps95
  go_wp2_with (first | ((with_reducible refine gate_dst (N := 1) rfl ?_); refine bx (N := 1) #[.string a0_0, .string a0_1] 98 ?_; intro gb439 hg w5 hbox hb; have BK439 := Aside0.mk (hbox); have GW439 := gw hg (uW HB.out); have GE439 := GW439; replace HB := cW HB hb; clear hb hbox hg; obtain ⟨hcz6_0, hcz6_1, hfz6_0, hfz6_1⟩ := z2 BK439) | (refine gL (some 5) rfl Tryz.func116 #[.string a0_0] ?_; (with_reducible refine (r02_Name.calls k a0_0 true _ A2.out).mono ?_); rintro e w' ⟨rfl, ⟨nd, rfl⟩⟩; refine ⟨_, rfl, ?_⟩) | (go_at_call 117; (with_reducible refine (r02_Value.calls k a0_1 t441 _ A4.out).mono ?_); rintro e w' ⟨rfl, ⟨nd, rfl⟩⟩))
  go_ret
  exact ⟨re_, bl⟩
 ·
  replace c3 := Bool.eq_false_iff.mpr c3
  subst c3
  rw [if_neg (show ¬ (false = true) by decide)] at H
  obtain rfl := Option.some.inj H
  go_enter Tryz.func95, Tryz.ntmps95
  go_wp2_with (first | ((with_reducible refine gate_dst (N := 1) rfl ?_); refine bx (N := 1) #[.string a0_0, .string a0_1] 98 ?_; intro gb439 hg w7 hbox hb; have BK439 := Aside0.mk (hbox); have GW439 := gw hg (uW HB.out); have GE439 := GW439; replace HB := cW HB hb; clear hb hbox hg; obtain ⟨hcz8_0, hcz8_1, hfz8_0, hfz8_1⟩ := z2 BK439) | (refine gL (some 5) rfl Tryz.func116 #[.string a0_0] ?_; (with_reducible refine (r02_Name.calls k a0_0 false _ A2.out).mono ?_); rintro e w' ⟨rfl, ⟨nd, rfl⟩⟩; refine ⟨_, rfl, ?_⟩))
  go_ret
  exact ⟨re_, bl⟩
mutual
def r03_Canon.l0 : Nat → List (S98) → Int → Option ((List (S98)) × Int)
 | 0, _, _ => none
 | k + 1, x0, x4 => if x4 < (x0.length : Int) then (if 0 ≤ x4 then ((r03_may.f k ((rd_T98 x0 x4).f0) ((rd_T98 x0 x4).f1)).bind fun t443 => (if t443 = true then (r03_Canon.l0 k x0 (wrap64 (x4 + 1))) else (some (([] : List (S98)), 2)))) else (none)) else (if (x0.length : Int) > 4 then (some (([] : List (S98)), 4)) else (r03_Canon.l1 k x0 ([] : List (S98)) 0))
def r03_Canon.l1 : Nat → List (S98) → List (S98) → Int → Option ((List (S98)) × Int)
 | 0, _, _, _ => none
 | k + 1, x0, x5, x6 => if x6 < (x0.length : Int) then (r03_Canon.l2 k x0 x5 x6 0) else (some (x5, 0))
def r03_Canon.l2 : Nat → List (S98) → List (S98) → Int → Int → Option ((List (S98)) × Int)
 | 0, _, _, _, _ => none
 | k + 1, x0, x5, x6, x7 => if x7 < (x5.length : Int) then (if 0 ≤ x7 then (if 0 ≤ x6 then (if x6 < (x0.length : Int) then (if (Op.bytesLess (((rd_T98 x5 x7).f0).toList) (((rd_T98 x0 x6).f0).toList)) = true then (r03_Canon.l2 k x0 x5 x6 (wrap64 (x7 + 1))) else (if ((rd_T98 x5 x7).f0).toList = ((rd_T98 x0 x6).f0).toList then (some (([] : List (S98)), 5)) else ((some (([] : List (S98)) : List (S98))).bind fun y448 => (if x7 ≤ (x5.length : Int) then ((some (x5.drop (x7 : Int).toNat : List (S98))).bind fun y451 => (if y448.length + y451.length < 4398046511104 then ((some (y448 ++ y451 : List (S98))).bind fun y455 => ((some (x5.take (x7 : Int).toNat : List (S98))).bind fun y458 => (if y458.length < 4398046511104 then ((some (y458 ++ [(⟨(rd_T98 x0 x6).f0, (rd_T98 x0 x6).f1⟩ : S98)] : List (S98))).bind fun y462 => (if y462.length + y455.length < 4398046511104 then (r03_Canon.l1 k x0 (y462 ++ y455) (wrap64 (x6 + 1))) else (none))) else (none)))) else (none))) else (none))))) else (none)) else (none)) else (none)) else ((some (([] : List (S98)) : List (S98))).bind fun y468 => (if 0 ≤ x7 then (if x7 ≤ (x5.length : Int) then ((some (x5.drop (x7 : Int).toNat : List (S98))).bind fun y471 => (if y468.length + y471.length < 4398046511104 then ((some (y468 ++ y471 : List (S98))).bind fun y475 => ((some (x5.take (x7 : Int).toNat : List (S98))).bind fun y478 => (if 0 ≤ x6 then (if x6 < (x0.length : Int) then (if y478.length < 4398046511104 then ((some (y478 ++ [(⟨(rd_T98 x0 x6).f0, (rd_T98 x0 x6).f1⟩ : S98)] : List (S98))).bind fun y482 => (if y482.length + y475.length < 4398046511104 then (r03_Canon.l1 k x0 (y482 ++ y475) (wrap64 (x6 + 1))) else (none))) else (none)) else (none)) else (none)))) else (none))) else (none)) else (none)))
end
def r03_Canon.f (k : Nat) (l0 : List (S98)) : Option ((List (S98)) × Int) := r03_Canon.l0 k l0 0
theorem r03_Canon.mono_l : ∀ k, (∀ y0 y1, LeC (r03_Canon.l0 k y0 y1) (r03_Canon.l0 (k + 1) y0 y1)) ∧ (∀ y0 y1 y2, LeC (r03_Canon.l1 k y0 y1 y2) (r03_Canon.l1 (k + 1) y0 y1 y2)) ∧ (∀ y0 y1 y2 y3, LeC (r03_Canon.l2 k y0 y1 y2 y3) (r03_Canon.l2 (k + 1) y0 y1 y2 y3))
 | 0 => ⟨fun _ _ => ⟨fun r h => by simp [r03_Canon.l0] at h⟩, fun _ _ _ => ⟨fun r h => by simp [r03_Canon.l1] at h⟩, fun _ _ _ _ => ⟨fun r h => by simp [r03_Canon.l2] at h⟩⟩
 | k + 1 => by obtain ⟨ih0, ih1, ih2⟩ := r03_Canon.mono_l k; exact ⟨fun _ _ => by unfold r03_Canon.l0; exact lm, fun _ _ _ => by unfold r03_Canon.l1; exact lm, fun _ _ _ _ => by unfold r03_Canon.l2; exact lm⟩
theorem r03_Canon.mono : ∀ a0 k, LeO (r03_Canon.f k a0) (r03_Canon.f (k + 1) a0) := by
 intro a0 k
 obtain ⟨ih0, ih1, ih2⟩ := r03_Canon.mono_l k
 unfold r03_Canon.f
 exact lo
instance r03_Canon.mI {a0 k} : LeC (r03_Canon.f k a0) (r03_Canon.f (k + 1) a0) := ⟨r03_Canon.mono _ _⟩
def r03_Canon.T13 : Bool × List (List Nat × List Nat) := (true, [([], []), ([], []), ([1], [1]), ([0, 2], [0, 2]), ([3], [3]), ([4], [4]), ([4], [4]), ([5, 6, 4], [4, 5, 6]), ([7, 4], [4, 7]), ([8, 4], [4, 8]), ([4], [4]), ([4], [4]), ([10, 11, 4], [4, 10, 11]), ([12, 4], [4, 12]), ([13, 4], [4, 13]), ([9, 14, 4], [4, 9, 14]), ([4, 15], [4, 15])])
def r03_Canon.B13 : List Nat := [0, 0, 2, 7, 15, 31, 31, 127, 255, 511, 31, 31, 3103, 7199, 15391, 32767, 65535]
theorem r03_Canon.tab13 : rtab .any (opsOf Tryz.f78 13) = r03_Canon.T13 := by kernel_rfl
theorem r03_Canon.bits13 : waitsOk r03_Canon.T13.2 r03_Canon.B13 = true := by kernel_rfl
def r03_Canon.T15 : Bool × List (List Nat × List Nat) := (true, [([], []), ([], []), ([1], [1]), ([0, 2], [0, 2]), ([3], [3]), ([4], [4]), ([4], [4]), ([5, 6, 4], [4, 5, 6]), ([7, 4], [4, 7]), ([8, 4], [4, 8]), ([4], [4]), ([4], [4]), ([10, 11, 4], [4, 10, 11]), ([12, 4], [4, 12]), ([13, 4], [4, 13]), ([9, 14, 4], [4, 9, 14]), ([4, 15], [4, 15])])
def r03_Canon.B15 : List Nat := [0, 0, 2, 7, 15, 31, 31, 127, 255, 511, 31, 31, 3103, 7199, 15391, 32767, 65535]
theorem r03_Canon.tab15 : rtab .any (opsOf Tryz.f78 15) = r03_Canon.T15 := by kernel_rfl
theorem r03_Canon.bits15 : waitsOk r03_Canon.T15.2 r03_Canon.B15 = true := by kernel_rfl
def r03_Canon.T18 : Bool × List (List Nat × List Nat) := (true, [([], []), ([], []), ([0, 1], [0, 1]), ([], []), ([], []), ([3, 4], [3, 4]), ([5], [5]), ([6], [6]), ([2, 7], [2, 7]), ([], []), ([8, 9, 8], [8, 9]), ([10, 10, 0, 1, 2, 3, 4, 5, 6, 7, 8, 9, 10], [0, 10])])
def r03_Canon.B18 : List Nat := [0, 0, 3, 0, 0, 24, 56, 120, 255, 0, 1023, 2047]
theorem r03_Canon.tab18 : rtab .any (opsOf Tryz.f78 18) = r03_Canon.T18 := by kernel_rfl
theorem r03_Canon.bits18 : waitsOk r03_Canon.T18.2 r03_Canon.B18 = true := by kernel_rfl
theorem r03_Canon.calls (k : Nat) (A0 : Option Addr) (c0 : Nat) (l0 : List (S98)) (r1 : List (S98)) (r2 : Int) (w : World) (hr0 : Kd.C k98 w A0 l0.length l0) (hc0 : l0.length ≤ c0) (h : r03_Canon.f k l0 = some (r1, r2)) :
 Calls Tryz.prog 78 #[.slice A0 l0.length c0] w fun e w' => ∃ v0_ : Value, e = .returned (.tuple #[v0_, .int .i64 r2]) ∧ Kd.R k98 98 w' w.heap.size (fun _ => True) v0_ r1 ∧ Below w.heap.size w w' := by
 have hu98 := Tryz.underlying98
 have HR0 := Aside0.mk hr0
 have HC0 := Aside0.mk hc0
 clear hr0 hc0
 have HB := Aside0.mk (Below.refl w.heap.size w)
 have H : (r03_Canon.l0 k l0 0) = some (r1, r2) := h
 clear h
 have H' := Aside0.mk H
 clear H
 go_enter Tryz.func78, Tryz.ntmps78
 go_wp2
 go_loopg [4] k (fun kq v4 w' => ∃ (x4_1 : Int), v4 = .int .i64 x4_1 ∧ Aside0 (r03_Canon.l0 kq l0 x4_1 = some (r1, r2)) ∧ Aside0 (kq ≤ k) ∧ Aside0 (Below w.heap.size w w'))
 case atStart => exact ⟨(0), rs_, H', ⟨Nat.le_refl _⟩, ⟨uW HB.out⟩⟩
 case round =>
  clear H'
  obtain ⟨x4_1, rfl, HA, HK1, HB⟩ := hrel
  cases gk with
  | zero => exact absurd HA.out (by simp [r03_Canon.l0])
  | succ k1 =>
   have H := HA.out
   clear HA
   simp only [r03_Canon.l0] at H
   by_cases c2 : x4_1 < (l0.length : Int)
   ·
    rw [if_pos c2] at H
    have c2b0 : decide (x4_1 < (l0.length : Int)) = true := decide_eq_true c2
    clear c2
    obtain ⟨c3b0, H⟩ := gdd H
    obtain ⟨t443, A4, H⟩ := bs H
    try dsimp only at H
    by_cases c5 : t443 = true
    ·
     subst c5
     rw [if_pos rfl] at H
     have H' := Aside0.mk H
     clear H
     have p442 : 0 ≤ (x4_1 : Int) := od
     have q442 : x4_1 < (l0.length : Int) := od
     obtain ⟨ad442, e442, hx442_0, hx442_1⟩ := at_T98 HR0.out x4_1 p442 q442
     cases e442
     replace hx442_0 := kc HB hx442_0
     replace hx442_1 := kc HB hx442_1
     replace p442 := eq_true p442
     replace q442 := eq_true q442
     go_wp2_with (first | (refine gL (some 19) rfl Tryz.func95 #[.agg #[.string ((rd_T98 l0 x4_1).f0), .string ((rd_T98 l0 x4_1).f1)]] ?_; (with_reducible refine (r03_may.calls k1 ((rd_T98 l0 x4_1).f0) ((rd_T98 l0 x4_1).f1) true _ A4.out).mono ?_); rintro e w6 ⟨rfl, hb⟩; refine ⟨_, rfl, ?_⟩; replace HB := cW HB hb; (try clear hb)))
     go_roundg k1
     case measure => have := HK1.out; omega
     case rel => exact ⟨(wrap64 (x4_1 + 1)), rs_, H', ⟨by have := HK1.out; omega⟩, ⟨uW HB.out⟩⟩
    ·
     replace c5 := Bool.eq_false_iff.mpr c5
     subst c5
     rw [if_neg (show ¬ (false = true) by decide)] at H
     simp only [Option.some.injEq, Prod.mk.injEq] at H
     obtain ⟨rfl, rfl⟩ := H
     have p442 : 0 ≤ (x4_1 : Int) := od
     have q442 : x4_1 < (l0.length : Int) := od
     obtain ⟨ad442, e442, hx442_0, hx442_1⟩ := at_T98 HR0.out x4_1 p442 q442
     cases e442
     replace hx442_0 := kc HB hx442_0
     replace hx442_1 := kc HB hx442_1
     replace p442 := eq_true p442
     replace q442 := eq_true q442
     go_wp2_with (first | (refine gL (some 19) rfl Tryz.func95 #[.agg #[.string ((rd_T98 l0 x4_1).f0), .string ((rd_T98 l0 x4_1).f1)]] ?_; (with_reducible refine (r03_may.calls k1 ((rd_T98 l0 x4_1).f0) ((rd_T98 l0 x4_1).f1) false _ A4.out).mono ?_); rintro e w7 ⟨rfl, hb⟩; refine ⟨_, rfl, ?_⟩; replace HB := cW HB hb; (try clear hb)))
     go_ret2
     exact ⟨_, re_, nl_, uW HB.out⟩
   ·
    rw [if_neg c2] at H
    have c2b0 : decide (x4_1 < (l0.length : Int)) = false := decide_eq_false c2
    clear c2
    by_cases c8 : (l0.length : Int) > 4
    ·
     rw [if_pos c8] at H
     have c8b0 : decide (4 < (l0.length : Int)) = true := decide_eq_true c8
     have c8b1 : decide (4 < l0.length) = true := decide_eq_true (by omega)
     clear c8
     simp only [Option.some.injEq, Prod.mk.injEq] at H
     obtain ⟨rfl, rfl⟩ := H
     go_wp2
     go_ret2
     exact ⟨_, re_, nl_, uW HB.out⟩
    ·
     rw [if_neg c8] at H
     have c8b0 : decide (4 < (l0.length : Int)) = false := decide_eq_false c8
     have c8b1 : decide (4 < l0.length) = false := decide_eq_false (by omega)
     clear c8
     have H' := Aside0.mk H
     clear H
     go_wp2
     go_loopg [5, 6] k1 (fun kq v5 v6 w' => ∃ (x5_2 : List (S98)) (x6_2 : Int), v6 = .int .i64 x6_2 ∧ Aside0 (r03_Canon.l1 kq l0 x5_2 x6_2 = some (r1, r2)) ∧ Aside0 (kq ≤ k1) ∧ Aside0 (Kd.R k98 98 w' w.heap.size (fun _ => True) v5 x5_2) ∧ Aside0 (Below w.heap.size w w'))
     case atStart => exact ⟨(([] : List (S98))), (0), rs_, H', ⟨Nat.le_refl _⟩, ⟨nl_⟩, ⟨uW HB.out⟩⟩
     case round =>
      clear H'
      try clear c2
      try clear c2b0
      try clear p2
      try clear c3
      try clear c3b0
      try clear p4
      try clear q4
      try clear hx4
      try clear c5
      try clear p6
      try clear c7
      try clear c8
      try clear c8b0
      try clear c8b1
      try clear hx442_0
      try clear hx442_1
      try clear p442
      try clear q442
      obtain ⟨x5_2, x6_2, rfl, HA, HK2, HO_5, HB⟩ := hrel
      cases gk with
      | zero => exact absurd HA.out (by simp [r03_Canon.l1])
      | succ k2 =>
       have H := HA.out
       clear HA
       simp only [r03_Canon.l1] at H
       by_cases c9 : x6_2 < (l0.length : Int)
       ·
        rw [if_pos c9] at H
        have c9b0 : decide (x6_2 < (l0.length : Int)) = true := decide_eq_true c9
        clear c9
        have H' := Aside0.mk H
        clear H
        go_wp2
        go_loopg [7] k2 (fun kq v7 w' => ∃ (x7_3 : Int), v7 = .int .i64 x7_3 ∧ Aside0 (r03_Canon.l2 kq l0 x5_2 x6_2 x7_3 = some (r1, r2)) ∧ Aside0 (kq ≤ k2) ∧ Aside0 (Kd.R k98 98 w' w.heap.size (fun _ => True) u5 x5_2) ∧ Aside0 (Below w.heap.size w w'))
        case atStart => exact ⟨(0), rs_, H', ⟨Nat.le_refl _⟩, ⟨uR HO_5.out⟩, ⟨uW HB.out⟩⟩
        case round =>
         clear H'
         try clear c2
         try clear c2b0
         try clear p2
         try clear c3
         try clear c3b0
         try clear p4
         try clear q4
         try clear hx4
         try clear c5
         try clear p6
         try clear c7
         try clear c8
         try clear c8b0
         try clear c8b1
         try clear c9
         try clear c9b0
         try clear hx442_0
         try clear hx442_1
         try clear p2
         try clear p4
         try clear p442
         try clear p6
         try clear q4
         try clear q442
         obtain ⟨x7_3, rfl, HA, HK3, HO_5, HB⟩ := hrel
         cases gk with
         | zero => exact absurd HA.out (by simp [r03_Canon.l2])
         | succ k3 =>
          have H := HA.out
          clear HA
          simp only [r03_Canon.l2] at H
          by_cases c10 : x7_3 < (x5_2.length : Int)
          ·
           rw [if_pos c10] at H
           have c10b0 : decide (x7_3 < (x5_2.length : Int)) = true := decide_eq_true c10
           clear c10
           obtain ⟨c11b0, H⟩ := gdd H
           obtain ⟨c12b0, H⟩ := gdd H
           obtain ⟨c13b0, H⟩ := gdd H
           by_cases c14 : (Op.bytesLess (((rd_T98 x5_2 x7_3).f0).toList) (((rd_T98 l0 x6_2).f0).toList)) = true
           ·
            rw [if_pos c14] at H
            have c14b0 : (Op.bytesLess (((rd_T98 x5_2 x7_3).f0).toList) (((rd_T98 l0 x6_2).f0).toList)) = true := c14
            clear c14
            have H' := Aside0.mk H
            clear H
            try go_wp2
            replace HO_5 := Aside0.mk (Kd.R_drew HO_5.out)
            replace HB := Aside0.mk (below_drew1 HB.out)
            obtain ⟨Ao16, co16, eo16⟩ := Kd.R_slice HO_5.out
            (first | subst eo16 | (injection eo16 with f1_ f2_ f3_; have f4_ := f1_.symm; have f5_ := f3_.symm; clear f1_ f2_ f3_; subst f4_; subst f5_))
            have p444 : 0 ≤ (x7_3 : Int) := od
            have q444 : x7_3 < (x5_2.length : Int) := od
            obtain ⟨ad444, e444, hx444_0, hx444_1⟩ := at_T98 (Kd.R_reads' HO_5.out).2.2 x7_3 p444 q444
            cases e444
            replace p444 := eq_true p444
            replace q444 := eq_true q444
            have p445 : 0 ≤ (x6_2 : Int) := od
            have q445 : x6_2 < (l0.length : Int) := od
            obtain ⟨ad445, e445, hx445_0, hx445_1⟩ := at_T98 HR0.out x6_2 p445 q445
            have hw445_1 := hx445_1
            have hw445_0 := hx445_0
            cases e445
            replace hx445_0 := kc HB hx445_0
            replace hx445_1 := kc HB hx445_1
            replace p445 := eq_true p445
            replace q445 := eq_true q445
            refine start_ (n := 17) (S := fun w' => w'.cell? (ad444.add ((x7_3).toNat * 2)) = some (.string ((rd_T98 x5_2 x7_3).f0)) ∧ w'.cell? ⟨(ad444.add ((x7_3).toNat * 2)).block, (ad444.add ((x7_3).toNat * 2)).off + 1, none⟩ = some (.string ((rd_T98 x5_2 x7_3).f1)) ∧ w'.cell? (ad445.add ((x6_2).toNat * 2)) = some (.string ((rd_T98 l0 x6_2).f0)) ∧ w'.cell? ⟨(ad445.add ((x6_2).toNat * 2)).block, (ad445.add ((x6_2).toNat * 2)).off + 1, none⟩ = some (.string ((rd_T98 l0 x6_2).f1))) (ds := []) _ (by kernel_rfl) rfl rfl ⟨hx444_0, hx444_1, (kc HB hw445_0), (kc HB hw445_1)⟩ (fun hHeld => ?_); refine with_tabW r03_Canon.tab13 r03_Canon.bits13 (fun HT_ HW_ => ?_)
            generalize wr.drew = w15 at HO_5 HB hx444_0 hx444_1 hx445_0 hx445_1 hHeld ⊢
            refine p1 0 (some 30) ?_
            refine p1 1 (some 31) ?_
            refine p1 2 (some 32) ?_
            refine p1 3 (some 33) ?_
            refine p1 4 (some 34) ?_
            refine p1 5 (some 35) ?_
            refine p1 6 (some 36) ?_
            refine p1 7 (some 37) ?_
            refine p1 8 (some 38) ?_
            refine p1 10 (some 40) ?_
            refine p1 11 (some 41) ?_
            refine p1 12 (some 42) ?_
            refine p1 13 (some 43) ?_
            refine t1 9 (some 39) rfl rfl hHeld (Or.inl ⟨by rfl, by rintro w' ⟨s0, s1, s2, s3⟩; go_simp; with_reducible rfl⟩) ?_
            refine t1 14 (some 44) rfl rfl hHeld (Or.inl ⟨by rfl, by rintro w' ⟨s0, s1, s2, s3⟩; go_simp; with_reducible rfl⟩) ?_
            refine p1 15 (some 45) ?_
            refine p1 16 (some 46) ?_
            refine done_ (done_of HT_.out (by kernel_rfl)) ?_
            try go_wp2
            go_roundg k3
            case measure => have := HK1.out; have := HK2.out; have := HK3.out; omega
            case rel => exact ⟨(wrap64 (x7_3 + 1)), rs_, H', ⟨by have := HK1.out; have := HK2.out; have := HK3.out; omega⟩, ⟨uR HO_5.out⟩, ⟨uW HB.out⟩⟩
           ·
            rw [if_neg c14] at H
            have c14b0 : (Op.bytesLess (((rd_T98 x5_2 x7_3).f0).toList) (((rd_T98 l0 x6_2).f0).toList)) = false := by simpa using c14
            clear c14
            by_cases c17 : ((rd_T98 x5_2 x7_3).f0).toList = ((rd_T98 l0 x6_2).f0).toList
            ·
             rw [if_pos c17] at H
             have c17b0 : (((rd_T98 x5_2 x7_3).f0).toList == ((rd_T98 l0 x6_2).f0).toList) = true := beq_iff_eq.mpr c17
             have c17b1 : (((rd_T98 x5_2 x7_3).f0).toList != ((rd_T98 l0 x6_2).f0).toList) = false := bne_eq_false_iff_eq.mpr c17
             clear c17
             simp only [Option.some.injEq, Prod.mk.injEq] at H
             obtain ⟨rfl, rfl⟩ := H
             try go_wp2
             replace HO_5 := Aside0.mk (Kd.R_drew HO_5.out)
             replace HB := Aside0.mk (below_drew1 HB.out)
             obtain ⟨Ao19, co19, eo19⟩ := Kd.R_slice HO_5.out
             (first | subst eo19 | (injection eo19 with f1_ f2_ f3_; have f4_ := f1_.symm; have f5_ := f3_.symm; clear f1_ f2_ f3_; subst f4_; subst f5_))
             have p444 : 0 ≤ (x7_3 : Int) := od
             have q444 : x7_3 < (x5_2.length : Int) := od
             obtain ⟨ad444, e444, hx444_0, hx444_1⟩ := at_T98 (Kd.R_reads' HO_5.out).2.2 x7_3 p444 q444
             cases e444
             replace p444 := eq_true p444
             replace q444 := eq_true q444
             have p445 : 0 ≤ (x6_2 : Int) := od
             have q445 : x6_2 < (l0.length : Int) := od
             obtain ⟨ad445, e445, hx445_0, hx445_1⟩ := at_T98 HR0.out x6_2 p445 q445
             have hw445_1 := hx445_1
             have hw445_0 := hx445_0
             cases e445
             replace hx445_0 := kc HB hx445_0
             replace hx445_1 := kc HB hx445_1
             replace p445 := eq_true p445
             replace q445 := eq_true q445
             refine start_ (n := 17) (S := fun w' => w'.cell? (ad444.add ((x7_3).toNat * 2)) = some (.string ((rd_T98 x5_2 x7_3).f0)) ∧ w'.cell? ⟨(ad444.add ((x7_3).toNat * 2)).block, (ad444.add ((x7_3).toNat * 2)).off + 1, none⟩ = some (.string ((rd_T98 x5_2 x7_3).f1)) ∧ w'.cell? (ad445.add ((x6_2).toNat * 2)) = some (.string ((rd_T98 l0 x6_2).f0)) ∧ w'.cell? ⟨(ad445.add ((x6_2).toNat * 2)).block, (ad445.add ((x6_2).toNat * 2)).off + 1, none⟩ = some (.string ((rd_T98 l0 x6_2).f1))) (ds := []) _ (by kernel_rfl) rfl rfl ⟨hx444_0, hx444_1, (kc HB hw445_0), (kc HB hw445_1)⟩ (fun hHeld => ?_); refine with_tabW r03_Canon.tab13 r03_Canon.bits13 (fun HT_ HW_ => ?_)
             generalize wr.drew = w18 at HO_5 HB hx444_0 hx444_1 hx445_0 hx445_1 hHeld ⊢
             refine p1 0 (some 30) ?_
             refine p1 1 (some 31) ?_
             refine p1 2 (some 32) ?_
             refine p1 3 (some 33) ?_
             refine p1 4 (some 34) ?_
             refine p1 5 (some 35) ?_
             refine p1 6 (some 36) ?_
             refine p1 7 (some 37) ?_
             refine p1 8 (some 38) ?_
             refine p1 10 (some 40) ?_
             refine p1 11 (some 41) ?_
             refine p1 12 (some 42) ?_
             refine p1 13 (some 43) ?_
             refine t1 9 (some 39) rfl rfl hHeld (Or.inl ⟨by rfl, by rintro w' ⟨s0, s1, s2, s3⟩; go_simp; with_reducible rfl⟩) ?_
             refine t1 14 (some 44) rfl rfl hHeld (Or.inl ⟨by rfl, by rintro w' ⟨s0, s1, s2, s3⟩; go_simp; with_reducible rfl⟩) ?_
             refine p1 15 (some 45) ?_
             refine p1 16 (some 46) ?_
             refine done_ (done_of HT_.out (by kernel_rfl)) ?_
             try go_wp2
             replace HO_5 := Aside0.mk (Kd.R_drew HO_5.out)
             replace HB := Aside0.mk (below_drew1 HB.out)
             have p446 : 0 ≤ (x7_3 : Int) := od
             have q446 : x7_3 < (x5_2.length : Int) := od
             obtain ⟨ad446, e446, hx446_0, hx446_1⟩ := at_T98 (Kd.R_reads' HO_5.out).2.2 x7_3 p446 q446
             obtain rfl : ad444 = ad446 := (by injection e446)
             replace p446 := eq_true p446
             replace q446 := eq_true q446
             have p447 : 0 ≤ (x6_2 : Int) := od
             have q447 : x6_2 < (l0.length : Int) := od
             obtain ⟨ad447, e447, hx447_0, hx447_1⟩ := at_T98 HR0.out x6_2 p447 q447
             have hw447_1 := hx447_1
             have hw447_0 := hx447_0
             obtain rfl : ad445 = ad447 := (by injection e447)
             replace hx447_0 := kc HB hx447_0
             replace hx447_1 := kc HB hx447_1
             replace p447 := eq_true p447
             replace q447 := eq_true q447
             refine start_ (n := 17) (S := fun w' => w'.cell? (ad444.add ((x7_3).toNat * 2)) = some (.string ((rd_T98 x5_2 x7_3).f0)) ∧ w'.cell? ⟨(ad444.add ((x7_3).toNat * 2)).block, (ad444.add ((x7_3).toNat * 2)).off + 1, none⟩ = some (.string ((rd_T98 x5_2 x7_3).f1)) ∧ w'.cell? (ad445.add ((x6_2).toNat * 2)) = some (.string ((rd_T98 l0 x6_2).f0)) ∧ w'.cell? ⟨(ad445.add ((x6_2).toNat * 2)).block, (ad445.add ((x6_2).toNat * 2)).off + 1, none⟩ = some (.string ((rd_T98 l0 x6_2).f1))) (ds := []) _ (by kernel_rfl) rfl rfl ⟨hx446_0, hx446_1, (kc HB hw447_0), (kc HB hw447_1)⟩ (fun hHeld => ?_); refine with_tabW r03_Canon.tab15 r03_Canon.bits15 (fun HT_ HW_ => ?_)
             generalize w18.drew = w20 at HO_5 HB hx446_0 hx446_1 hx447_0 hx447_1 hHeld ⊢
             refine p1 0 (some 49) ?_
             refine p1 1 (some 50) ?_
             refine p1 2 (some 51) ?_
             refine p1 3 (some 52) ?_
             refine p1 4 (some 53) ?_
             refine p1 5 (some 54) ?_
             refine p1 6 (some 55) ?_
             refine p1 7 (some 56) ?_
             refine p1 8 (some 57) ?_
             refine p1 10 (some 59) ?_
             refine p1 11 (some 60) ?_
             refine p1 12 (some 61) ?_
             refine p1 13 (some 62) ?_
             refine t1 9 (some 58) rfl rfl hHeld (Or.inl ⟨by rfl, by rintro w' ⟨s0, s1, s2, s3⟩; go_simp; with_reducible rfl⟩) ?_
             refine t1 14 (some 63) rfl rfl hHeld (Or.inl ⟨by rfl, by rintro w' ⟨s0, s1, s2, s3⟩; go_simp; with_reducible rfl⟩) ?_
             refine p1 15 (some 64) ?_
             refine p1 16 (some 65) ?_
             refine done_ (done_of HT_.out (by kernel_rfl)) ?_
             try go_wp2
             go_ret2
             exact ⟨_, re_, nl_, uW HB.out⟩
            ·
             rw [if_neg c17] at H
             have c17b0 : (((rd_T98 x5_2 x7_3).f0).toList == ((rd_T98 l0 x6_2).f0).toList) = false := beq_eq_false_iff_ne.mpr c17
             have c17b1 : (((rd_T98 x5_2 x7_3).f0).toList != ((rd_T98 l0 x6_2).f0).toList) = true := bne_iff_ne.mpr c17
             obtain ⟨y448, Ny448, H⟩ := ys H
             try dsimp only at H
             have c21b0 := eq_true (od : 0 ≤ x7_3)
             obtain ⟨c22, H⟩ := gd H
             have c22b0 := eq_true c22
             have c22b1 : decide (x7_3 ≤ (x5_2.length : Int)) = true := decide_eq_true c22
             clear c22
             obtain ⟨y451, Ny451, H⟩ := ys H
             try dsimp only at H
             obtain ⟨c23, H⟩ := gd H
             have LMc23 := Aside0.mk c23
             clear c23
             obtain ⟨y455, Ny455, H⟩ := ys H
             try dsimp only at H
             have c24b0 := eq_true (od : x7_3 ≤ (x5_2.length : Int))
             obtain ⟨y458, Ny458, H⟩ := ys H
             try dsimp only at H
             obtain ⟨c25, H⟩ := gd H
             have LMc25 := Aside0.mk c25
             clear c25
             obtain ⟨y462, Ny462, H⟩ := ys H
             try dsimp only at H
             obtain ⟨c26, H⟩ := gd H
             have LMc26 := Aside0.mk c26
             clear c26
             obtain ⟨y465, hy465⟩ : ∃ y_ : List (S98), y_ = (y462 ++ y455) := ⟨_, rfl⟩
             replace H : (r03_Canon.l1 k3 l0 y465 (wrap64 (x6_2 + 1))) = some (r1, r2) := by first | (rw [hy465]; with_reducible exact H) | (have H2_ := (Option.bind_some _ _).symm.trans H; rw [hy465]; with_reducible exact H2_) | (have H2_ := (Option.bind_some _ _).symm.trans H; with_reducible exact H2_) | with_reducible exact H | (rw [hy465]; exact H) | exact H
             have Ny465 := Aside0.mk hy465
             clear hy465
             have H' := Aside0.mk H
             clear H
             try go_wp2
             replace HO_5 := Aside0.mk (Kd.R_drew HO_5.out)
             replace HB := Aside0.mk (below_drew1 HB.out)
             obtain ⟨Ao28, co28, eo28⟩ := Kd.R_slice HO_5.out
             (first | subst eo28 | (injection eo28 with f1_ f2_ f3_; have f4_ := f1_.symm; have f5_ := f3_.symm; clear f1_ f2_ f3_; subst f4_; subst f5_))
             have p444 : 0 ≤ (x7_3 : Int) := od
             have q444 : x7_3 < (x5_2.length : Int) := od
             obtain ⟨ad444, e444, hx444_0, hx444_1⟩ := at_T98 (Kd.R_reads' HO_5.out).2.2 x7_3 p444 q444
             cases e444
             replace p444 := eq_true p444
             replace q444 := eq_true q444
             have p445 : 0 ≤ (x6_2 : Int) := od
             have q445 : x6_2 < (l0.length : Int) := od
             obtain ⟨ad445, e445, hx445_0, hx445_1⟩ := at_T98 HR0.out x6_2 p445 q445
             have hw445_1 := hx445_1
             have hw445_0 := hx445_0
             cases e445
             replace hx445_0 := kc HB hx445_0
             replace hx445_1 := kc HB hx445_1
             replace p445 := eq_true p445
             replace q445 := eq_true q445
             refine start_ (n := 17) (S := fun w' => w'.cell? (ad444.add ((x7_3).toNat * 2)) = some (.string ((rd_T98 x5_2 x7_3).f0)) ∧ w'.cell? ⟨(ad444.add ((x7_3).toNat * 2)).block, (ad444.add ((x7_3).toNat * 2)).off + 1, none⟩ = some (.string ((rd_T98 x5_2 x7_3).f1)) ∧ w'.cell? (ad445.add ((x6_2).toNat * 2)) = some (.string ((rd_T98 l0 x6_2).f0)) ∧ w'.cell? ⟨(ad445.add ((x6_2).toNat * 2)).block, (ad445.add ((x6_2).toNat * 2)).off + 1, none⟩ = some (.string ((rd_T98 l0 x6_2).f1))) (ds := []) _ (by kernel_rfl) rfl rfl ⟨hx444_0, hx444_1, (kc HB hw445_0), (kc HB hw445_1)⟩ (fun hHeld => ?_); refine with_tabW r03_Canon.tab13 r03_Canon.bits13 (fun HT_ HW_ => ?_)
             generalize wr.drew = w27 at HO_5 HB hx444_0 hx444_1 hx445_0 hx445_1 hHeld ⊢
             refine p1 0 (some 30) ?_
             refine p1 1 (some 31) ?_
             refine p1 2 (some 32) ?_
             refine p1 3 (some 33) ?_
             refine p1 4 (some 34) ?_
             refine p1 5 (some 35) ?_
             refine p1 6 (some 36) ?_
             refine p1 7 (some 37) ?_
             refine p1 8 (some 38) ?_
             refine p1 10 (some 40) ?_
             refine p1 11 (some 41) ?_
             refine p1 12 (some 42) ?_
             refine p1 13 (some 43) ?_
             refine t1 9 (some 39) rfl rfl hHeld (Or.inl ⟨by rfl, by rintro w' ⟨s0, s1, s2, s3⟩; go_simp; with_reducible rfl⟩) ?_
             refine t1 14 (some 44) rfl rfl hHeld (Or.inl ⟨by rfl, by rintro w' ⟨s0, s1, s2, s3⟩; go_simp; with_reducible rfl⟩) ?_
             refine p1 15 (some 45) ?_
             refine p1 16 (some 46) ?_
             refine done_ (done_of HT_.out (by kernel_rfl)) ?_
             try go_wp2
             replace HO_5 := Aside0.mk (Kd.R_drew HO_5.out)
             replace HB := Aside0.mk (below_drew1 HB.out)
             have p446 : 0 ≤ (x7_3 : Int) := od
             have q446 : x7_3 < (x5_2.length : Int) := od
             obtain ⟨ad446, e446, hx446_0, hx446_1⟩ := at_T98 (Kd.R_reads' HO_5.out).2.2 x7_3 p446 q446
             obtain rfl : ad444 = ad446 := (by injection e446)
             replace p446 := eq_true p446
             replace q446 := eq_true q446
             have p447 : 0 ≤ (x6_2 : Int) := od
             have q447 : x6_2 < (l0.length : Int) := od
             obtain ⟨ad447, e447, hx447_0, hx447_1⟩ := at_T98 HR0.out x6_2 p447 q447
             have hw447_1 := hx447_1
             have hw447_0 := hx447_0
             obtain rfl : ad445 = ad447 := (by injection e447)
             replace hx447_0 := kc HB hx447_0
             replace hx447_1 := kc HB hx447_1
             replace p447 := eq_true p447
             replace q447 := eq_true q447
             refine start_ (n := 17) (S := fun w' => w'.cell? (ad444.add ((x7_3).toNat * 2)) = some (.string ((rd_T98 x5_2 x7_3).f0)) ∧ w'.cell? ⟨(ad444.add ((x7_3).toNat * 2)).block, (ad444.add ((x7_3).toNat * 2)).off + 1, none⟩ = some (.string ((rd_T98 x5_2 x7_3).f1)) ∧ w'.cell? (ad445.add ((x6_2).toNat * 2)) = some (.string ((rd_T98 l0 x6_2).f0)) ∧ w'.cell? ⟨(ad445.add ((x6_2).toNat * 2)).block, (ad445.add ((x6_2).toNat * 2)).off + 1, none⟩ = some (.string ((rd_T98 l0 x6_2).f1))) (ds := []) _ (by kernel_rfl) rfl rfl ⟨hx446_0, hx446_1, (kc HB hw447_0), (kc HB hw447_1)⟩ (fun hHeld => ?_); refine with_tabW r03_Canon.tab15 r03_Canon.bits15 (fun HT_ HW_ => ?_)
             generalize w27.drew = w29 at HO_5 HB hx446_0 hx446_1 hx447_0 hx447_1 hHeld ⊢
             refine p1 0 (some 49) ?_
             refine p1 1 (some 50) ?_
             refine p1 2 (some 51) ?_
             refine p1 3 (some 52) ?_
             refine p1 4 (some 53) ?_
             refine p1 5 (some 54) ?_
             refine p1 6 (some 55) ?_
             refine p1 7 (some 56) ?_
             refine p1 8 (some 57) ?_
             refine p1 10 (some 59) ?_
             refine p1 11 (some 60) ?_
             refine p1 12 (some 61) ?_
             refine p1 13 (some 62) ?_
             refine t1 9 (some 58) rfl rfl hHeld (Or.inl ⟨by rfl, by rintro w' ⟨s0, s1, s2, s3⟩; go_simp; with_reducible rfl⟩) ?_
             refine t1 14 (some 63) rfl rfl hHeld (Or.inl ⟨by rfl, by rintro w' ⟨s0, s1, s2, s3⟩; go_simp; with_reducible rfl⟩) ?_
             refine p1 15 (some 64) ?_
             refine p1 16 (some 65) ?_
             refine done_ (done_of HT_.out (by kernel_rfl)) ?_
             try go_wp2_with (first | ((with_reducible refine gate_dst (N := 66) rfl ?_); refine Kd.R_lit k98 _ 98 ?hg (N := 66) ?hd (xs := ([] : List (S98))) (inner := []) (ok := fun _ => True) (okp := fun _ => True) ?hr ?hp (fun _ hk => hk) trivial (Below.refl _ _) (Nat.le_refl _) (by simp) ?_; (case hd => rfl); (case hg => rfl); (case hr => first | (go_simp; done) | (go_simp; rfl)); (case hp => exact (Reps.none _ _)); intro v449 w30 ho31 hb hg_ hnew_; clear hg_ hnew_; (first | rw [← Ny448.out] at ho31 | (simp only [Int.reduceToNat] at ho31; rw [← Ny448.out] at ho31)); have HO450 := Aside0.mk (Kd.R_lower (Kd.R_new' ho31 (Kd.R_lt (uR HO_5.out))) (below_size (uW HB.out))); replace HO_5 := Aside0.mk (Kd.R_elder' (uR HO_5.out) (Kd.R_base ho31) hb); replace HB := cW HB hb; clear hb ho31; have q32 : (x7_3 : Int) ≤ ((x5_2.length : Int) : Int) := od; obtain ⟨i032, hi032, _, hsz32, _⟩ := info_parts info98; have hroom32 : x5_2.length ≤ co28 := (Kd.R_reads' HO_5.out).2.1; have hC32 : Kd.C k98 _ (some ad444) x5_2.length x5_2 := (Kd.R_reads' HO_5.out).2.2; have q032 : (0 : Int) ≤ (x7_3 : Int) := od; have hcut32 := cut_from (P := Tryz.prog) 78 98 .i64 Tryz.underlying78 hi032 2 hsz32 (some ad444) x5_2.length co28 x7_3 q032 q32; have hr32 := Kd.C_drop (m := (x7_3 : Int).toNat) (c := co28) hC32 (by omega) hroom32; obtain ⟨A32, hA32⟩ : ∃ A1, A1 = (if co28 = (x7_3 : Int).toNat then (some ad444) else ((some ad444) : Option Addr).map (·.add ((x7_3 : Int).toNat * 2))) := ⟨_, rfl⟩; obtain ⟨c32, hc32⟩ : ∃ c1, c1 = co28 - (x7_3 : Int).toNat := ⟨_, rfl⟩; have hy32 : y451.length = x5_2.length - (x7_3 : Int).toNat := (by rw [Ny451.out, List.length_drop] <;> omega); rw [show (x5_2).drop (x7_3 : Int).toNat = y451 from Ny451.out.symm] at hr32; replace hr32 : Kd.C k98 _ A32 y451.length y451 := (by rw [hA32]; exact hr32); rw [← hy32, ← hA32, ← hc32] at hcut32; have HR454 := Aside0.mk hr32; have HC454 := Aside0.mk (show y451.length ≤ c32 from by rw [hy32, hc32]; exact Nat.sub_le_sub_right hroom32 _); clear hr32 hC32 hroom32 hi032 hsz32 hc32; have KY32 := Aside0.mk hy32; have KA32 := Aside0.mk hA32; clear hy32 hA32; have KL32 := Aside0.mk (show (x7_3 : Int).toNat ≤ x5_2.length from by omega); replace q32 := eq_true q32) | ((with_reducible refine gate_builtin (b := .append) (xs := #[.tmp 66, .tmp 69]) rfl ?_); at_builtin; refine Kd.R_append_rows k98 (w0 := w) w.heap.size rfl (.tmp 66) (.tmp 69) 78 98 (.agg #[(.string ⟨#[]⟩), (.string ⟨#[]⟩)]) 32 rfl Tryz.underlying78 info98 rfl (by decide) (by omega) v449 y448 y451 _ _ _ (fun k_ => some k_ ≠ (.slice (some ad444) x5_2.length co28 : Value).ownBlock) (fun _ => False) rfl rfl ?aO ?aR (fun _ _ h => h) (fun _ h => h.elim) ?aF ?aB ?aS ?aL ?_; (case aR => repeat (first | exact (by repeat (first | (with_reducible exact HR454.out) | (with_reducible refine Kd.C_alloc ?_ _) | (with_reducible refine Kd.C_drewN ?_ _) | (with_reducible refine Kd.C_drew ?_) | exact HR454.out)) | (with_reducible refine Kd.C_alloc ?_ _) | (with_reducible refine Kd.C_drewN ?_ _) | (with_reducible refine Kd.C_drew ?_))); (case aB => exact (uW HB.out)); (case aF => exact (fun k_ hk => Kd.fresh' (Kd.R_lt (uR HO_5.out)) k_ hk)); (case aO => exact (by exact uR <| Kd.R_mono HO450.out (fun _ hk => hk.2))); (case aS => exact (below_size (uW HB.out))); (case aL => have := LMc23.out; omega); intro v456 w33 ho hb hg hat; rw [← Ny455.out] at ho; replace HB := Aside0.mk (hb); replace HR454 := Aside0.mk ((show Kd.C k98 w33 A32 y451.length y451 from by rw [Ny451.out, KA32.out]; exact Kd.C_drop (m := (x7_3 : Int).toNat) (c := co28) ((Kd.R_reads' (Kd.R_after (ok := (fun _ => True)) (uR HO_5.out) hg hat)).2.2) KL32.out ((Kd.R_reads' (Kd.R_after (ok := (fun _ => True)) (uR HO_5.out) hg hat)).2.1))); replace HO_5 := Aside0.mk (Kd.R_after (ok := (fun _ => True)) (uR HO_5.out) hg hat); have HO457 := Aside0.mk (ho); clear HO450; clear ho hb hg hat))
             replace HO_5 := Aside0.mk (Kd.R_drew HO_5.out)
             replace HO457 := Aside0.mk (Kd.R_drew HO457.out)
             replace HR454 := Aside0.mk (Kd.C_drew HR454.out)
             replace HB := Aside0.mk (below_drew1 HB.out)
             have q35 : (x7_3 : Int) ≤ ((x5_2.length : Int) : Int) := od
             obtain ⟨i035, hi035, _, hsz35, _⟩ := info_parts info98
             have hcut35 := cut_to (P := Tryz.prog) 78 98 .i64 Tryz.underlying78 hi035 (some ad444) x5_2.length co28 x7_3 (od) q35 (Kd.R_reads' HO_5.out).2.1
             have hr35 := Kd.R_take (m := (x7_3 : Int).toNat) HO_5.out (by omega)
             have hy35 : y458.length = (x7_3 : Int).toNat := (by rw [Ny458.out, List.length_take]; omega)
             rw [← Ny458.out] at hr35
             rw [← hy35] at hr35 hcut35
             clear hy35 hi035 hsz35 HO_5
             have HO460 := Aside0.mk hr35
             clear hr35
             replace q35 := eq_true q35
             have p461 : 0 ≤ (x6_2 : Int) := od
             have q461 : x6_2 < (l0.length : Int) := od
             obtain ⟨ad461, e461, hx461_0, hx461_1⟩ := at_T98 HR0.out x6_2 p461 q461
             have hw461_1 := hx461_1
             have hw461_0 := hx461_0
             obtain rfl : ad445 = ad461 := (by injection e461)
             replace hx461_0 := kc HB hx461_0
             replace hx461_1 := kc HB hx461_1
             replace p461 := eq_true p461
             replace q461 := eq_true q461
             refine start_ (n := 12) (S := fun w' => w'.cell? (ad445.add ((x6_2).toNat * 2)) = some (.string ((rd_T98 l0 x6_2).f0)) ∧ w'.cell? ⟨(ad445.add ((x6_2).toNat * 2)).block, (ad445.add ((x6_2).toNat * 2)).off + 1, none⟩ = some (.string ((rd_T98 l0 x6_2).f1))) (ds := []) _ (by kernel_rfl) rfl rfl ⟨(kc HB hw461_0), (kc HB hw461_1)⟩ (fun hHeld => ?_); refine with_tabW r03_Canon.tab18 r03_Canon.bits18 (fun HT_ HW_ => ?_)
             generalize w33.drew = w34 at HO457 HR454 HB HO460 hx461_0 hx461_1 hHeld ⊢
             refine p1 0 (some 71) ?_
             refine p1 1 (some 72) ?_
             refine p1 2 (some 73) ?_
             refine p1 3 (some 74) ?_
             refine p1 4 (some 75) ?_
             refine p1 5 (some 76) ?_
             refine p1 9 (some 80) ?_
             refine t1 6 (some 77) rfl rfl hHeld (Or.inl ⟨by rfl, by rintro w' ⟨s0, s1⟩; go_simp; with_reducible rfl⟩) ?_
             refine o1 7 (some 78) rfl rfl (fun K hK => ?_)
             refine value_ (w1 := ?_) (v := ?_) (by rfl) rfl ?_ ?_
             rotate_left 2
             ·
              go_simp
              constructor
              ·
               rfl
              ·
               rfl
             refine hK.out _ _ ⟨(World.cell?_alloc_lt _ _ _ (World.block_lt_of_cell? _ _ ((kc HB hw461_0)))).trans ((kc HB hw461_0)), (World.cell?_alloc_lt _ _ _ (World.block_lt_of_cell? _ _ ((kc HB hw461_1)))).trans ((kc HB hw461_1))⟩ (fun hHeld => ?_)
             clear hK K
             refine norm_ (a' := ?_) ?_ ?_
             rotate_left
             ·
              show Act.put _ (some 78) _ = _
              simp only [Act.put, List.setIfInBounds_toArray, List.set_cons_zero, List.set_cons_succ, i64_w, i32_w]
              rfl
             refine o1 8 (some 79) rfl rfl (fun K hK => ?_)
             refine Kd.R_append_step k98 (w0 := w) w.heap.size (by rfl) (.tmp 73) (.tmp 78) 78 98 (.agg #[(.string ⟨#[]⟩), (.string ⟨#[]⟩)]) 32 rfl Tryz.underlying78 info98 rfl (by decide) (by omega) (.slice (some ad444) y458.length co28) y458 (⟨(rd_T98 l0 x6_2).f0, (rd_T98 l0 x6_2).f1⟩ : S98) [.string ((rd_T98 l0 x6_2).f0), .string ((rd_T98 l0 x6_2).f1)] (fun k_ => some k_ ≠ (v456 : Value).ownBlock) (fun _ => False) rfl rfl ?aP (fun _ hk => hk.elim) ?aF ?aO ?aB ?aS ?aL ?_
             (case aP => exact k98_mkM _ _ _ (⟨(rd_T98 l0 x6_2).f0, (rd_T98 l0 x6_2).f1⟩ : S98))
             (case aB => exact (uW HB.out))
             (case aF => exact (fun k_ hk => Kd.fresh' (Kd.R_lt (uR HO457.out)) k_ hk))
             (case aO => exact (by exact uR <| Kd.R_mono HO460.out (fun _ hk => hk.2)))
             (case aS => exact (below_size (uW HB.out)))
             (case aL => have := LMc25.out; omega)
             intro v463 w36 ho hb hg hat
             rw [← Ny462.out] at ho
             replace HO457 := Aside0.mk (Kd.R_after (ok := (fun _ => True)) (by exact uR <| Kd.R_mono HO457.out (fun _ hk => ⟨trivial, hk⟩)) hg hat)
             replace HB := Aside0.mk (hb)
             have HO464 := Aside0.mk (ho)
             clear HO460
             clear ho hb hg hat
             obtain ⟨Ao38, co38, eo38⟩ := Kd.R_slice HO457.out
             (first | subst eo38 | (injection eo38 with f1_ f2_ f3_; have f4_ := f1_.symm; have f5_ := f3_.symm; clear f1_ f2_ f3_; subst f4_; subst f5_))
             refine hK.out _ _ ⟨(kc HB hw461_0), (kc HB hw461_1)⟩ (fun hHeld => ?_)
             clear hK K
             refine norm_ (a' := ?_) ?_ ?_
             rotate_left
             ·
              show Act.put _ (some 79) _ = _
              simp only [Act.put, List.setIfInBounds_toArray, List.set_cons_zero, List.set_cons_succ, i64_w, i32_w]
              rfl
             refine o1 10 (some 81) rfl rfl (fun K hK => ?_)
             refine Kd.R_append_rows_step k98 (w0 := w) w.heap.size (by rfl) (.tmp 79) (.tmp 80) 78 98 (.agg #[(.string ⟨#[]⟩), (.string ⟨#[]⟩)]) 32 rfl Tryz.underlying78 info98 rfl (by decide) (by omega) v463 y462 y455 _ _ _ (fun k_ => some k_ ≠ (.slice Ao38 y455.length co38 : Value).ownBlock) (fun _ => False) rfl rfl ?aO ?aR (fun _ _ h => h) (fun _ h => h.elim) ?aF ?aB ?aS ?aL ?_
             (case aR => exact uC <| (Kd.R_reads' HO457.out).2.2)
             (case aB => exact (uW HB.out))
             (case aF => exact (fun k_ hk => Kd.fresh' (Kd.R_lt (uR HO457.out)) k_ hk))
             (case aO => exact (uR HO464.out))
             (case aS => exact (below_size (uW HB.out)))
             (case aL => have := LMc26.out; omega)
             intro v466 w37 ho hb hg hat
             rw [← Ny465.out] at ho
             replace HO457 := Aside0.mk (Kd.R_after (ok := (fun _ => True)) (uR HO457.out) hg hat)
             replace HB := Aside0.mk (hb)
             have HO467 := Aside0.mk (ho)
             clear HO464
             clear ho hb hg hat
             refine hK.out _ _ ⟨(kc HB hw461_0), (kc HB hw461_1)⟩ (fun hHeld => ?_)
             clear hK K
             refine norm_ (a' := ?_) ?_ ?_
             rotate_left
             ·
              show Act.put _ (some 81) _ = _
              simp only [Act.put, List.setIfInBounds_toArray, List.set_cons_zero, List.set_cons_succ, i64_w, i32_w]
              rfl
             refine p1 11 (some 5) ?_
             refine done_ (done_of HT_.out (by kernel_rfl)) ?_
             try go_wp2
             go_roundg k3
             case measure => have := HK1.out; have := HK2.out; have := HK3.out; omega
             case rel => exact ⟨(y465), (wrap64 (x6_2 + 1)), rs_, H', ⟨by have := HK1.out; have := HK2.out; have := HK3.out; omega⟩, ⟨by exact uR <| Kd.R_mono HO467.out (fun _ hk => trivial)⟩, ⟨uW HB.out⟩⟩
          ·
           rw [if_neg c10] at H
           have c10b0 : decide (x7_3 < (x5_2.length : Int)) = false := decide_eq_false c10
           clear c10
           obtain ⟨y468, Ny468, H⟩ := ys H
           try dsimp only at H
           obtain ⟨c39, H⟩ := gd H
           have c39b0 := eq_true c39
           have c39b1 : decide (0 ≤ x7_3) = true := decide_eq_true c39
           clear c39
           obtain ⟨c40, H⟩ := gd H
           have c40b0 := eq_true c40
           have c40b1 : decide (x7_3 ≤ (x5_2.length : Int)) = true := decide_eq_true c40
           clear c40
           obtain ⟨y471, Ny471, H⟩ := ys H
           try dsimp only at H
           obtain ⟨c41, H⟩ := gd H
           have LMc41 := Aside0.mk c41
           clear c41
           obtain ⟨y475, Ny475, H⟩ := ys H
           try dsimp only at H
           have c42b0 := eq_true (od : x7_3 ≤ (x5_2.length : Int))
           obtain ⟨y478, Ny478, H⟩ := ys H
           try dsimp only at H
           obtain ⟨c43b0, H⟩ := gdd H
           obtain ⟨c44b0, H⟩ := gdd H
           obtain ⟨c45, H⟩ := gd H
           have LMc45 := Aside0.mk c45
           clear c45
           obtain ⟨y482, Ny482, H⟩ := ys H
           try dsimp only at H
           obtain ⟨c46, H⟩ := gd H
           have LMc46 := Aside0.mk c46
           clear c46
           obtain ⟨y485, hy485⟩ : ∃ y_ : List (S98), y_ = (y482 ++ y475) := ⟨_, rfl⟩
           replace H : (r03_Canon.l1 k3 l0 y485 (wrap64 (x6_2 + 1))) = some (r1, r2) := by first | (rw [hy485]; with_reducible exact H) | (have H2_ := (Option.bind_some _ _).symm.trans H; rw [hy485]; with_reducible exact H2_) | (have H2_ := (Option.bind_some _ _).symm.trans H; with_reducible exact H2_) | with_reducible exact H | (rw [hy485]; exact H) | exact H
           have Ny485 := Aside0.mk hy485
           clear hy485
           have H' := Aside0.mk H
           clear H
           try go_wp2
           replace HO_5 := Aside0.mk (Kd.R_drew HO_5.out)
           replace HB := Aside0.mk (below_drew1 HB.out)
           obtain ⟨Ao48, co48, eo48⟩ := Kd.R_slice HO_5.out
           (first | subst eo48 | (injection eo48 with f1_ f2_ f3_; have f4_ := f1_.symm; have f5_ := f3_.symm; clear f1_ f2_ f3_; subst f4_; subst f5_))
           refine start_ (n := 17) (S := fun w' => True) (ds := []) _ (by kernel_rfl) rfl rfl trivial (fun hHeld => ?_); refine with_tabW r03_Canon.tab13 r03_Canon.bits13 (fun HT_ HW_ => ?_)
           generalize wr.drew = w47 at HO_5 HB hHeld ⊢
           refine p1 0 (some 30) ?_
           refine p1 1 (some 31) ?_
           refine p1 2 (some 32) ?_
           refine p1 3 (some 33) ?_
           refine p1 4 (some 34) ?_
           refine p2 5 (some 35) ?_
           refine p2 6 (some 36) ?_
           refine p2 7 (some 37) ?_
           refine p2 8 (some 38) ?_
           refine p2 9 (some 39) ?_
           refine p2 10 (some 40) ?_
           refine p2 11 (some 41) ?_
           refine p2 12 (some 42) ?_
           refine p2 13 (some 43) ?_
           refine p2 14 (some 44) ?_
           refine p2 15 (some 45) ?_
           refine p1 16 (some 46) ?_
           refine done_ (done_of HT_.out (by kernel_rfl)) ?_
           try go_wp2
           replace HO_5 := Aside0.mk (Kd.R_drew HO_5.out)
           replace HB := Aside0.mk (below_drew1 HB.out)
           refine start_ (n := 17) (S := fun w' => True) (ds := []) _ (by kernel_rfl) rfl rfl trivial (fun hHeld => ?_); refine with_tabW r03_Canon.tab15 r03_Canon.bits15 (fun HT_ HW_ => ?_)
           generalize w47.drew = w49 at HO_5 HB hHeld ⊢
           refine p1 0 (some 49) ?_
           refine p1 1 (some 50) ?_
           refine p1 2 (some 51) ?_
           refine p1 3 (some 52) ?_
           refine p1 4 (some 53) ?_
           refine p2 5 (some 54) ?_
           refine p2 6 (some 55) ?_
           refine p2 7 (some 56) ?_
           refine p2 8 (some 57) ?_
           refine p2 9 (some 58) ?_
           refine p2 10 (some 59) ?_
           refine p2 11 (some 60) ?_
           refine p2 12 (some 61) ?_
           refine p2 13 (some 62) ?_
           refine p2 14 (some 63) ?_
           refine p2 15 (some 64) ?_
           refine p1 16 (some 65) ?_
           refine done_ (done_of HT_.out (by kernel_rfl)) ?_
           try go_wp2_with (first | ((with_reducible refine gate_dst (N := 66) rfl ?_); refine Kd.R_lit k98 _ 98 ?hg (N := 66) ?hd (xs := ([] : List (S98))) (inner := []) (ok := fun _ => True) (okp := fun _ => True) ?hr ?hp (fun _ hk => hk) trivial (Below.refl _ _) (Nat.le_refl _) (by simp) ?_; (case hd => rfl); (case hg => rfl); (case hr => first | (go_simp; done) | (go_simp; rfl)); (case hp => exact (Reps.none _ _)); intro v469 w50 ho51 hb hg_ hnew_; clear hg_ hnew_; (first | rw [← Ny468.out] at ho51 | (simp only [Int.reduceToNat] at ho51; rw [← Ny468.out] at ho51)); have HO470 := Aside0.mk (Kd.R_lower (Kd.R_new' ho51 (Kd.R_lt (uR HO_5.out))) (below_size (uW HB.out))); replace HO_5 := Aside0.mk (Kd.R_elder' (uR HO_5.out) (Kd.R_base ho51) hb); replace HB := cW HB hb; clear hb ho51; have q52 : (x7_3 : Int) ≤ ((x5_2.length : Int) : Int) := od; obtain ⟨i052, hi052, _, hsz52, _⟩ := info_parts info98; have hroom52 : x5_2.length ≤ co48 := (Kd.R_reads' HO_5.out).2.1; have hC52 : Kd.C k98 _ Ao48 x5_2.length x5_2 := (Kd.R_reads' HO_5.out).2.2; have q052 : (0 : Int) ≤ (x7_3 : Int) := od; have hcut52 := cut_from (P := Tryz.prog) 78 98 .i64 Tryz.underlying78 hi052 2 hsz52 Ao48 x5_2.length co48 x7_3 q052 q52; have hr52 := Kd.C_drop (m := (x7_3 : Int).toNat) (c := co48) hC52 (by omega) hroom52; obtain ⟨A52, hA52⟩ : ∃ A1, A1 = (if co48 = (x7_3 : Int).toNat then Ao48 else (Ao48 : Option Addr).map (·.add ((x7_3 : Int).toNat * 2))) := ⟨_, rfl⟩; obtain ⟨c52, hc52⟩ : ∃ c1, c1 = co48 - (x7_3 : Int).toNat := ⟨_, rfl⟩; have hy52 : y471.length = x5_2.length - (x7_3 : Int).toNat := (by rw [Ny471.out, List.length_drop] <;> omega); rw [show (x5_2).drop (x7_3 : Int).toNat = y471 from Ny471.out.symm] at hr52; replace hr52 : Kd.C k98 _ A52 y471.length y471 := (by rw [hA52]; exact hr52); rw [← hy52, ← hA52, ← hc52] at hcut52; have HR474 := Aside0.mk hr52; have HC474 := Aside0.mk (show y471.length ≤ c52 from by rw [hy52, hc52]; exact Nat.sub_le_sub_right hroom52 _); clear hr52 hC52 hroom52 hi052 hsz52 hc52; have KY52 := Aside0.mk hy52; have KA52 := Aside0.mk hA52; clear hy52 hA52; have KL52 := Aside0.mk (show (x7_3 : Int).toNat ≤ x5_2.length from by omega); replace q52 := eq_true q52) | ((with_reducible refine gate_builtin (b := .append) (xs := #[.tmp 66, .tmp 69]) rfl ?_); at_builtin; refine Kd.R_append_rows k98 (w0 := w) w.heap.size rfl (.tmp 66) (.tmp 69) 78 98 (.agg #[(.string ⟨#[]⟩), (.string ⟨#[]⟩)]) 32 rfl Tryz.underlying78 info98 rfl (by decide) (by omega) v469 y468 y471 _ _ _ (fun k_ => some k_ ≠ (.slice Ao48 x5_2.length co48 : Value).ownBlock) (fun _ => False) rfl rfl ?aO ?aR (fun _ _ h => h) (fun _ h => h.elim) ?aF ?aB ?aS ?aL ?_; (case aR => repeat (first | exact (by repeat (first | (with_reducible exact HR474.out) | (with_reducible refine Kd.C_alloc ?_ _) | (with_reducible refine Kd.C_drewN ?_ _) | (with_reducible refine Kd.C_drew ?_) | exact HR474.out)) | (with_reducible refine Kd.C_alloc ?_ _) | (with_reducible refine Kd.C_drewN ?_ _) | (with_reducible refine Kd.C_drew ?_))); (case aB => exact (uW HB.out)); (case aF => exact (fun k_ hk => Kd.fresh' (Kd.R_lt (uR HO_5.out)) k_ hk)); (case aO => exact (by exact uR <| Kd.R_mono HO470.out (fun _ hk => hk.2))); (case aS => exact (below_size (uW HB.out))); (case aL => have := LMc41.out; omega); intro v476 w53 ho hb hg hat; rw [← Ny475.out] at ho; replace HB := Aside0.mk (hb); replace HR474 := Aside0.mk ((show Kd.C k98 w53 A52 y471.length y471 from by rw [Ny471.out, KA52.out]; exact Kd.C_drop (m := (x7_3 : Int).toNat) (c := co48) ((Kd.R_reads' (Kd.R_after (ok := (fun _ => True)) (uR HO_5.out) hg hat)).2.2) KL52.out ((Kd.R_reads' (Kd.R_after (ok := (fun _ => True)) (uR HO_5.out) hg hat)).2.1))); replace HO_5 := Aside0.mk (Kd.R_after (ok := (fun _ => True)) (uR HO_5.out) hg hat); have HO477 := Aside0.mk (ho); clear HO470; clear ho hb hg hat))
           replace HO_5 := Aside0.mk (Kd.R_drew HO_5.out)
           replace HO477 := Aside0.mk (Kd.R_drew HO477.out)
           replace HR474 := Aside0.mk (Kd.C_drew HR474.out)
           replace HB := Aside0.mk (below_drew1 HB.out)
           have q55 : (x7_3 : Int) ≤ ((x5_2.length : Int) : Int) := od
           obtain ⟨i055, hi055, _, hsz55, _⟩ := info_parts info98
           have hcut55 := cut_to (P := Tryz.prog) 78 98 .i64 Tryz.underlying78 hi055 Ao48 x5_2.length co48 x7_3 (od) q55 (Kd.R_reads' HO_5.out).2.1
           have hr55 := Kd.R_take (m := (x7_3 : Int).toNat) HO_5.out (by omega)
           have hy55 : y478.length = (x7_3 : Int).toNat := (by rw [Ny478.out, List.length_take]; omega)
           rw [← Ny478.out] at hr55
           rw [← hy55] at hr55 hcut55
           clear hy55 hi055 hsz55 HO_5
           have HO480 := Aside0.mk hr55
           clear hr55
           replace q55 := eq_true q55
           have p481 : 0 ≤ (x6_2 : Int) := od
           have q481 : x6_2 < (l0.length : Int) := od
           obtain ⟨ad481, e481, hx481_0, hx481_1⟩ := at_T98 HR0.out x6_2 p481 q481
           have hw481_1 := hx481_1
           have hw481_0 := hx481_0
           cases e481
           replace hx481_0 := kc HB hx481_0
           replace hx481_1 := kc HB hx481_1
           replace p481 := eq_true p481
           replace q481 := eq_true q481
           refine start_ (n := 12) (S := fun w' => w'.cell? (ad481.add ((x6_2).toNat * 2)) = some (.string ((rd_T98 l0 x6_2).f0)) ∧ w'.cell? ⟨(ad481.add ((x6_2).toNat * 2)).block, (ad481.add ((x6_2).toNat * 2)).off + 1, none⟩ = some (.string ((rd_T98 l0 x6_2).f1))) (ds := []) _ (by kernel_rfl) rfl rfl ⟨(kc HB hw481_0), (kc HB hw481_1)⟩ (fun hHeld => ?_); refine with_tabW r03_Canon.tab18 r03_Canon.bits18 (fun HT_ HW_ => ?_)
           generalize w53.drew = w54 at HO477 HR474 HB HO480 hx481_0 hx481_1 hHeld ⊢
           refine p1 0 (some 71) ?_
           refine p1 1 (some 72) ?_
           refine p1 2 (some 73) ?_
           refine p1 3 (some 74) ?_
           refine p1 4 (some 75) ?_
           refine p1 5 (some 76) ?_
           refine p1 9 (some 80) ?_
           refine t1 6 (some 77) rfl rfl hHeld (Or.inl ⟨by rfl, by rintro w' ⟨s0, s1⟩; go_simp; with_reducible rfl⟩) ?_
           refine o1 7 (some 78) rfl rfl (fun K hK => ?_)
           refine value_ (w1 := ?_) (v := ?_) (by rfl) rfl ?_ ?_
           rotate_left 2
           ·
            go_simp
            constructor
            ·
             rfl
            ·
             rfl
           refine hK.out _ _ ⟨(World.cell?_alloc_lt _ _ _ (World.block_lt_of_cell? _ _ ((kc HB hw481_0)))).trans ((kc HB hw481_0)), (World.cell?_alloc_lt _ _ _ (World.block_lt_of_cell? _ _ ((kc HB hw481_1)))).trans ((kc HB hw481_1))⟩ (fun hHeld => ?_)
           clear hK K
           refine norm_ (a' := ?_) ?_ ?_
           rotate_left
           ·
            show Act.put _ (some 78) _ = _
            simp only [Act.put, List.setIfInBounds_toArray, List.set_cons_zero, List.set_cons_succ, i64_w, i32_w]
            rfl
           refine o1 8 (some 79) rfl rfl (fun K hK => ?_)
           refine Kd.R_append_step k98 (w0 := w) w.heap.size (by rfl) (.tmp 73) (.tmp 78) 78 98 (.agg #[(.string ⟨#[]⟩), (.string ⟨#[]⟩)]) 32 rfl Tryz.underlying78 info98 rfl (by decide) (by omega) (.slice Ao48 y478.length co48) y478 (⟨(rd_T98 l0 x6_2).f0, (rd_T98 l0 x6_2).f1⟩ : S98) [.string ((rd_T98 l0 x6_2).f0), .string ((rd_T98 l0 x6_2).f1)] (fun k_ => some k_ ≠ (v476 : Value).ownBlock) (fun _ => False) rfl rfl ?aP (fun _ hk => hk.elim) ?aF ?aO ?aB ?aS ?aL ?_
           (case aP => exact k98_mkM _ _ _ (⟨(rd_T98 l0 x6_2).f0, (rd_T98 l0 x6_2).f1⟩ : S98))
           (case aB => exact (uW HB.out))
           (case aF => exact (fun k_ hk => Kd.fresh' (Kd.R_lt (uR HO477.out)) k_ hk))
           (case aO => exact (by exact uR <| Kd.R_mono HO480.out (fun _ hk => hk.2)))
           (case aS => exact (below_size (uW HB.out)))
           (case aL => have := LMc45.out; omega)
           intro v483 w56 ho hb hg hat
           rw [← Ny482.out] at ho
           replace HO477 := Aside0.mk (Kd.R_after (ok := (fun _ => True)) (by exact uR <| Kd.R_mono HO477.out (fun _ hk => ⟨trivial, by first | exact hk | (revert hk; cases Ao48 <;> exact id)⟩)) hg hat)
           replace HB := Aside0.mk (hb)
           have HO484 := Aside0.mk (ho)
           clear HO480
           clear ho hb hg hat
           obtain ⟨Ao58, co58, eo58⟩ := Kd.R_slice HO477.out
           (first | subst eo58 | (injection eo58 with f1_ f2_ f3_; have f4_ := f1_.symm; have f5_ := f3_.symm; clear f1_ f2_ f3_; subst f4_; subst f5_))
           refine hK.out _ _ ⟨(kc HB hw481_0), (kc HB hw481_1)⟩ (fun hHeld => ?_)
           clear hK K
           refine norm_ (a' := ?_) ?_ ?_
           rotate_left
           ·
            show Act.put _ (some 79) _ = _
            simp only [Act.put, List.setIfInBounds_toArray, List.set_cons_zero, List.set_cons_succ, i64_w, i32_w]
            rfl
           refine o1 10 (some 81) rfl rfl (fun K hK => ?_)
           refine Kd.R_append_rows_step k98 (w0 := w) w.heap.size (by rfl) (.tmp 79) (.tmp 80) 78 98 (.agg #[(.string ⟨#[]⟩), (.string ⟨#[]⟩)]) 32 rfl Tryz.underlying78 info98 rfl (by decide) (by omega) v483 y482 y475 _ _ _ (fun k_ => some k_ ≠ (.slice Ao58 y475.length co58 : Value).ownBlock) (fun _ => False) rfl rfl ?aO ?aR (fun _ _ h => h) (fun _ h => h.elim) ?aF ?aB ?aS ?aL ?_
           (case aR => exact uC <| (Kd.R_reads' HO477.out).2.2)
           (case aB => exact (uW HB.out))
           (case aF => exact (fun k_ hk => Kd.fresh' (Kd.R_lt (uR HO477.out)) k_ hk))
           (case aO => exact (uR HO484.out))
           (case aS => exact (below_size (uW HB.out)))
           (case aL => have := LMc46.out; omega)
           intro v486 w57 ho hb hg hat
           rw [← Ny485.out] at ho
           replace HO477 := Aside0.mk (Kd.R_after (ok := (fun _ => True)) (uR HO477.out) hg hat)
           replace HB := Aside0.mk (hb)
           have HO487 := Aside0.mk (ho)
           clear HO484
           clear ho hb hg hat
           refine hK.out _ _ ⟨(kc HB hw481_0), (kc HB hw481_1)⟩ (fun hHeld => ?_)
           clear hK K
           refine norm_ (a' := ?_) ?_ ?_
           rotate_left
           ·
            show Act.put _ (some 81) _ = _
            simp only [Act.put, List.setIfInBounds_toArray, List.set_cons_zero, List.set_cons_succ, i64_w, i32_w]
            rfl
           refine p1 11 (some 5) ?_
           refine done_ (done_of HT_.out (by kernel_rfl)) ?_
           try go_wp2
           go_roundg k3
           case measure => have := HK1.out; have := HK2.out; have := HK3.out; omega
           case rel => exact ⟨(y485), (wrap64 (x6_2 + 1)), rs_, H', ⟨by have := HK1.out; have := HK2.out; have := HK3.out; omega⟩, ⟨by exact uR <| Kd.R_mono HO487.out (fun _ hk => trivial)⟩, ⟨uW HB.out⟩⟩
       ·
        rw [if_neg c9] at H
        have c9b0 : decide (x6_2 < (l0.length : Int)) = false := decide_eq_false c9
        clear c9
        simp only [Option.some.injEq, Prod.mk.injEq] at H
        obtain ⟨rfl, rfl⟩ := H
        go_wp2
        go_ret2
        exact ⟨_, re_, uR HO_5.out, uW HB.out⟩
def r03_Parse.l0 : Nat → List (S98) → List ByteArray → Int → Option ((List (S98)) × Int)
 | 0, _, _, _ => none
 | k + 1, x4, x5, x6 => if x6 < (x5.length : Int) then (if 0 ≤ x6 then ((r02_Split.f k (rdOf ByteArray.empty x5 x6) 61).bind fun t496 => (if (t496.length : Int) < 2 then (some (([] : List (S98)), 2)) else (if 0 < (t496.length : Int) then (if 1 ≤ (t496.length : Int) then ((r02_Join.f k (⟨#[61]⟩ : ByteArray) (t496.drop 1)).bind fun t504 => (if x4.length < 4398046511104 then (r03_Parse.l0 k (x4 ++ [(⟨rdOf ByteArray.empty t496 0, t504⟩ : S98)]) x5 (wrap64 (x6 + 1))) else (none))) else (none)) else (none)))) else (none)) else ((r03_Canon.f k x4).bind fun bt491 => (some (bt491.1, bt491.2)))
def r03_Parse.f (k : Nat) (a0 : ByteArray) : Option ((List (S98)) × Int) := if a0.toList = ([] : List UInt8) then (some (([] : List (S98)), 0)) else ((r02_Split.f k a0 44).bind fun t488 => (r03_Parse.l0 k ([] : List (S98)) t488 0))
theorem r03_Parse.mono_l : ∀ k, (∀ y0 y1 y2, LeC (r03_Parse.l0 k y0 y1 y2) (r03_Parse.l0 (k + 1) y0 y1 y2))
 | 0 => fun _ _ _ => ⟨fun r h => by simp [r03_Parse.l0] at h⟩
 | k + 1 => by have ih0 := r03_Parse.mono_l k; exact fun _ _ _ => by unfold r03_Parse.l0; exact lm
theorem r03_Parse.mono : ∀ a0 k, LeO (r03_Parse.f k a0) (r03_Parse.f (k + 1) a0) := by
 intro a0 k
 have ih0 := r03_Parse.mono_l k
 unfold r03_Parse.f
 exact lo
instance r03_Parse.mI {a0 k} : LeC (r03_Parse.f k a0) (r03_Parse.f (k + 1) a0) := ⟨r03_Parse.mono _ _⟩
def r03_Parse.T11 : Bool × List (List Nat × List Nat) := (true, [([], []), ([], []), ([1], [1]), ([2], [2]), ([], []), ([4], [4]), ([5], [5]), ([3, 6], [3, 6]), ([7], [7]), ([0, 8, 6], [0, 8]), ([9, 9, 0, 1, 2, 3, 4, 5, 6, 7, 8, 9], [0, 9])])
def r03_Parse.B11 : List Nat := [0, 0, 2, 6, 0, 16, 48, 126, 254, 511, 1023]
theorem r03_Parse.tab11 : rtab .any (opsOf Tryz.f61 11) = r03_Parse.T11 := by kernel_rfl
theorem r03_Parse.bits11 : waitsOk r03_Parse.T11.2 r03_Parse.B11 = true := by kernel_rfl
theorem r03_Parse.calls (k : Nat) (a0 : ByteArray) (r1 : List (S98)) (r2 : Int) (w : World) (h : r03_Parse.f k a0 = some (r1, r2)) :
 Calls Tryz.prog 61 #[.string a0] w fun e w' => ∃ v0_ : Value, e = .returned (.tuple #[v0_, .int .i64 r2]) ∧ Kd.R k98 98 w' w.heap.size (fun _ => True) v0_ r1 ∧ Below w.heap.size w w' := by
 have hu98 := Tryz.underlying98
 have HB := Aside0.mk (Below.refl w.heap.size w)
 have H : (if a0.toList = ([] : List UInt8) then (some (([] : List (S98)), 0)) else ((r02_Split.f k a0 44).bind fun t488 => (r03_Parse.l0 k ([] : List (S98)) t488 0))) = some (r1, r2) := h
 clear h
 by_cases c2 : a0.toList = ([] : List UInt8)
 ·
  rw [if_pos c2] at H
  have c2b0 : (a0.toList == ([] : List UInt8)) = true := beq_iff_eq.mpr c2
  have c2b1 : (a0.toList != ([] : List UInt8)) = false := bne_eq_false_iff_eq.mpr c2
  clear c2
  simp only [Option.some.injEq, Prod.mk.injEq] at H
  obtain ⟨rfl, rfl⟩ := H
  go_enter Tryz.func61, Tryz.ntmps61
  go_wp2
  go_ret2
  exact ⟨_, re_, nl_, uW HB.out⟩
 ·
  rw [if_neg c2] at H
  have c2b0 : (a0.toList == ([] : List UInt8)) = false := beq_eq_false_iff_ne.mpr c2
  have c2b1 : (a0.toList != ([] : List UInt8)) = true := bne_iff_ne.mpr c2
  obtain ⟨t488, A3, H⟩ := bs H
  try dsimp only at H
  have H' := Aside0.mk H
  clear H
  go_enter Tryz.func61, Tryz.ntmps61
  go_wp2_with (first | (refine gL (some 11) rfl Tryz.func41 #[.string a0, .int .u8 44] ?_; (with_reducible refine (r02_Split.calls k a0 44 t488 _ A3.out).mono ?_); rintro e w4 ⟨v489, rfl, ho0, hb⟩; refine ⟨_, rfl, ?_⟩; have HO490 := Aside0.mk (Kd.R_lower ho0 (below_size (uW HB.out))); replace HB := cW HB hb; (try clear hb); (try clear ho0)))
  (try simp only [Act.put, List.setIfInBounds_toArray, List.set_cons_zero, List.set_cons_succ])
  go_loopg [4, 6] k (fun kq v4 v6 w' => ∃ (x4_1 : List (S98)) (x6_1 : Int), v6 = .int .i64 x6_1 ∧ Aside0 (r03_Parse.l0 kq x4_1 t488 x6_1 = some (r1, r2)) ∧ Aside0 (kq ≤ k) ∧ Aside0 (Kd.R k98 98 w' w.heap.size (fun _ => True) v4 x4_1) ∧ Aside0 (Kd.R Kd.string 9 w' w.heap.size (fun _ => True) v489 t488) ∧ Aside0 (Below w.heap.size w w'))
  case atStart => exact ⟨(([] : List (S98))), (0), rs_, H', ⟨Nat.le_refl _⟩, ⟨nl_⟩, ⟨uR HO490.out⟩, ⟨uW HB.out⟩⟩
  case round =>
   clear H'
   try clear c2
   try clear c2b0
   try clear c2b1
   try clear p2
   try clear c4
   obtain ⟨x4_1, x6_1, rfl, HA, HK1, HO_4, HO_5, HB⟩ := hrel
   cases gk with
   | zero => exact absurd HA.out (by simp [r03_Parse.l0])
   | succ k1 =>
    have H := HA.out
    clear HA
    simp only [r03_Parse.l0] at H
    by_cases c5 : x6_1 < (t488.length : Int)
    ·
     rw [if_pos c5] at H
     have c5b0 : decide (x6_1 < (t488.length : Int)) = true := decide_eq_true c5
     clear c5
     obtain ⟨c6b0, H⟩ := gdd H
     obtain ⟨t496, A7, H⟩ := bs H
     try dsimp only at H
     by_cases c8 : (t496.length : Int) < 2
     ·
      rw [if_pos c8] at H
      have c8b0 : decide ((t496.length : Int) < 2) = true := decide_eq_true c8
      have c8b1 : decide (t496.length < 2) = true := decide_eq_true (by omega)
      clear c8
      simp only [Option.some.injEq, Prod.mk.injEq] at H
      obtain ⟨rfl, rfl⟩ := H
      obtain ⟨Ao9, co9, eo9⟩ := Kd.R_slice HO_5.out
      subst eo9
      have p495 : 0 ≤ (x6_1 : Int) := od
      have q495 : x6_1 < (t488.length : Int) := od
      obtain ⟨ad495, e495, hx495_0⟩ := Kd.at_string (Kd.R_reads' HO_5.out).2.2 x6_1 p495 q495
      cases e495
      replace p495 := eq_true p495
      replace q495 := eq_true q495
      go_wp2_with (first | (refine gL (some 22) rfl Tryz.func41 #[.string (rdOf ByteArray.empty t488 x6_1), .int .u8 61] ?_; (with_reducible refine (r02_Split.calls k1 (rdOf ByteArray.empty t488 x6_1) 61 t496 _ A7.out).mono ?_); rintro e w10 ⟨v497, rfl, ho0, hb⟩; refine ⟨_, rfl, ?_⟩; replace HO_4 := cR HO_4 hb; have HO498 := Aside0.mk (Kd.R_lower (Kd.R_new' ho0 (Kd.R_lt (uR HO_5.out))) (below_size (uW HB.out))); replace HO_5 := Aside0.mk (Kd.R_elder' (uR HO_5.out) (Kd.R_base ho0) hb); replace HB := cW HB hb; (try clear hb); (try clear ho0); obtain ⟨Ao11, co11, eo11⟩ := Kd.R_slice HO498.out; subst eo11))
      go_ret2
      exact ⟨_, re_, nl_, uW HB.out⟩
     ·
      rw [if_neg c8] at H
      have c8b0 : decide ((t496.length : Int) < 2) = false := decide_eq_false c8
      have c8b1 : decide (t496.length < 2) = false := decide_eq_false (by omega)
      clear c8
      obtain ⟨c12, H⟩ := gd H
      have c12b0 : decide (0 < (t496.length : Int)) = true := decide_eq_true c12
      have c12b1 : decide (0 < t496.length) = true := decide_eq_true (by omega)
      clear c12
      obtain ⟨c13, H⟩ := gd H
      have c13b0 := eq_true c13
      have c13b1 : decide (1 ≤ (t496.length : Int)) = true := decide_eq_true c13
      clear c13
      obtain ⟨y500, hy500⟩ : ∃ y_ : List ByteArray, y_ = (t496.drop 1) := ⟨_, rfl⟩
      replace H : ((r02_Join.f k1 (⟨#[61]⟩ : ByteArray) y500).bind fun t504 => (if x4_1.length < 4398046511104 then (r03_Parse.l0 k1 (x4_1 ++ [(⟨rdOf ByteArray.empty t496 0, t504⟩ : S98)]) t488 (wrap64 (x6_1 + 1))) else (none))) = some (r1, r2) := by first | (rw [hy500]; with_reducible exact H) | (have H2_ := (Option.bind_some _ _).symm.trans H; rw [hy500]; with_reducible exact H2_) | (have H2_ := (Option.bind_some _ _).symm.trans H; with_reducible exact H2_) | with_reducible exact H | (rw [hy500]; exact H) | exact H
      have Ny500 := Aside0.mk hy500
      clear hy500
      obtain ⟨t504, A14, H⟩ := bs H
      try dsimp only at H
      obtain ⟨c15, H⟩ := gd H
      have LMc15 := Aside0.mk c15
      clear c15
      obtain ⟨y505, hy505⟩ : ∃ y_ : List (S98), y_ = (x4_1 ++ [(⟨rdOf ByteArray.empty t496 0, t504⟩ : S98)]) := ⟨_, rfl⟩
      replace H : (r03_Parse.l0 k1 y505 t488 (wrap64 (x6_1 + 1))) = some (r1, r2) := by first | (rw [hy505]; with_reducible exact H) | (have H2_ := (Option.bind_some _ _).symm.trans H; rw [hy505]; with_reducible exact H2_) | (have H2_ := (Option.bind_some _ _).symm.trans H; with_reducible exact H2_) | with_reducible exact H | (rw [hy505]; exact H) | exact H
      have Ny505 := Aside0.mk hy505
      clear hy505
      have H' := Aside0.mk H
      clear H
      obtain ⟨Ao16, co16, eo16⟩ := Kd.R_slice HO_5.out
      subst eo16
      have p495 : 0 ≤ (x6_1 : Int) := od
      have q495 : x6_1 < (t488.length : Int) := od
      obtain ⟨ad495, e495, hx495_0⟩ := Kd.at_string (Kd.R_reads' HO_5.out).2.2 x6_1 p495 q495
      cases e495
      replace p495 := eq_true p495
      replace q495 := eq_true q495
      try go_wp2_with (first | (refine gL (some 22) rfl Tryz.func41 #[.string (rdOf ByteArray.empty t488 x6_1), .int .u8 61] ?_; (with_reducible refine (r02_Split.calls k1 (rdOf ByteArray.empty t488 x6_1) 61 t496 _ A7.out).mono ?_); rintro e w17 ⟨v497, rfl, ho0, hb⟩; refine ⟨_, rfl, ?_⟩; replace HO_4 := cR HO_4 hb; have HO498 := Aside0.mk (Kd.R_lower (Kd.R_new' ho0 (Kd.R_lt (uR HO_5.out))) (below_size (uW HB.out))); replace HO_5 := Aside0.mk (Kd.R_elder' (uR HO_5.out) (Kd.R_base ho0) hb); replace HB := cW HB hb; (try clear hb); (try clear ho0); obtain ⟨Ao18, co18, eo18⟩ := Kd.R_slice HO498.out; subst eo18))
      replace HO_4 := Aside0.mk (Kd.R_drew HO_4.out)
      replace HO_5 := Aside0.mk (Kd.R_drew HO_5.out)
      replace HO498 := Aside0.mk (Kd.R_drew HO498.out)
      replace HB := Aside0.mk (below_drew1 HB.out)
      have p499 : 0 ≤ (0 : Int) := (by omega)
      have q499 : 0 < (t496.length : Int) := od
      obtain ⟨ad499, e499, hx499_0⟩ := Kd.at_string (Kd.R_reads' HO498.out).2.2 0 p499 q499
      cases e499
      have qi499 : (0 < t496.length) = True := eq_true (by omega)
      (try rw [show ((0 : Int)).toNat = 0 from rfl] at hx499_0)
      (try rw [Addr.add_zero'] at hx499_0)
      replace p499 := eq_true p499
      replace q499 := eq_true q499
      have q20 : (1 : Int) ≤ ((t496.length : Int) : Int) := od
      obtain ⟨i020, hi020, _, hsz20, _⟩ := info_parts info9
      have hroom20 : t496.length ≤ co18 := (Kd.R_reads' HO498.out).2.1
      have hC20 : Kd.C Kd.string _ (some ad499) t496.length t496 := (Kd.R_reads' HO498.out).2.2
      have hcut20 := cut_from (P := Tryz.prog) 52 9 .i64 Tryz.underlying52 hi020 1 hsz20 (some ad499) t496.length co18 1 (by omega) q20
      have hr20 := Kd.C_drop (m := (1 : Int).toNat) (c := co18) hC20 (by omega) hroom20
      obtain ⟨A20, hA20⟩ : ∃ A1, A1 = (if co18 = (1 : Int).toNat then (some ad499) else ((some ad499) : Option Addr).map (·.add ((1 : Int).toNat * 1))) := ⟨_, rfl⟩
      obtain ⟨c20, hc20⟩ : ∃ c1, c1 = co18 - (1 : Int).toNat := ⟨_, rfl⟩
      have hy20 : y500.length = t496.length - (1 : Int).toNat := (by rw [Ny500.out, List.length_drop] <;> omega)
      rw [show (t496).drop (1 : Int).toNat = y500 from Ny500.out.symm] at hr20
      replace hr20 : Kd.C Kd.string _ A20 y500.length y500 := (by rw [hA20]; exact hr20)
      rw [← hy20, ← hA20, ← hc20] at hcut20
      have HR503 := Aside0.mk hr20
      have HC503 := Aside0.mk (show y500.length ≤ c20 from by rw [hy20, hc20]; exact Nat.sub_le_sub_right hroom20 _)
      clear hr20 hC20 hroom20 hi020 hsz20 hc20
      have KY20 := Aside0.mk hy20
      have KA20 := Aside0.mk hA20
      clear hy20 hA20
      have KL20 := Aside0.mk (show 1 ≤ t496.length from by omega)
      replace q20 := eq_true q20
      refine start_ (n := 11) (S := fun w' => w'.cell? ad499 = some (.string (rdOf ByteArray.empty t496 0))) (ds := [8, 9]) _ (by kernel_rfl) rfl rfl (hx499_0) (fun hHeld => ?_); refine with_tabW r03_Parse.tab11 r03_Parse.bits11 (fun HT_ HW_ => ?_)
      generalize w17.drew = w19 at HO_4 HO_5 HO498 HB HR503 hx499_0 hHeld ⊢
      refine p1 0 (some 26) ?_
      refine p1 1 (some 27) ?_
      refine p1 2 (some 28) ?_
      refine p1 4 (some 30) ?_
      refine p1 5 (some 31) ?_
      refine t1 3 (some 29) rfl rfl hHeld (Or.inl ⟨by rfl, by intro w' s0; go_simp; with_reducible rfl⟩) ?_
      refine o1 6 (some 32) rfl rfl (fun K hK => ?_)
      refine gS Tryz.func35 #[.string (⟨#[61]⟩ : ByteArray), .slice A20 y500.length c20] ?_
      with_reducible refine (r02_Join.calls k1 (⟨#[61]⟩ : ByteArray) _ _ y500 t504 _ ?side1 ?side2 A14.out).mono ?_
      (case side1 => repeat (first | exact (by repeat (first | (with_reducible exact HR503.out) | (with_reducible refine Kd.C_alloc ?_ _) | (with_reducible refine Kd.C_drewN ?_ _) | (with_reducible refine Kd.C_drew ?_) | exact HR503.out)) | (with_reducible refine Kd.C_alloc ?_ _) | (with_reducible refine Kd.C_drewN ?_ _) | (with_reducible refine Kd.C_drew ?_)))
      (case side2 => exact HC503.out)
      rintro e w' ⟨rfl, ⟨nd, rfl⟩⟩
      refine ⟨_, rfl, ?_⟩
      refine hK.out _ _ (hHeld) (fun hHeld => ?_)
      clear hK K
      refine norm_ (a' := ?_) ?_ ?_
      rotate_left
      ·
       show Act.put _ (some 32) _ = _
       simp only [Act.put, List.setIfInBounds_toArray, List.set_cons_zero, List.set_cons_succ, i64_w, i32_w]
       rfl
      refine p1 7 (some 33) ?_
      refine l1_ 8 (some 34) rfl rfl (fun K hK => ?_)
      refine value_ (w1 := ?_) (v := ?_) (by rfl) rfl ?_ ?_
      rotate_left 2
      ·
       go_simp
       constructor
       ·
        rfl
       ·
        rfl
      refine hK.out _ _ ?_
      clear hK K
      refine norm_ (a' := ?_) ?_ ?_
      rotate_left
      ·
       show Act.put _ (some 34) _ = _
       simp only [Act.put, List.setIfInBounds_toArray, List.set_cons_zero, List.set_cons_succ, i64_w, i32_w]
       rfl
      refine l1_ 9 (some 35) rfl rfl (fun K hK => ?_)
      refine Kd.R_append_step k98 (w0 := w) w.heap.size (by rfl) (.tmp 26) (.tmp 34) 78 98 (.agg #[(.string ⟨#[]⟩), (.string ⟨#[]⟩)]) 32 rfl Tryz.underlying78 info98 rfl (by decide) (by omega) u4 x4_1 (⟨rdOf ByteArray.empty t496 0, t504⟩ : S98) [.string (rdOf ByteArray.empty t496 0), .string t504] (fun _ => True) (fun _ => False) rfl rfl ?aP (fun _ hk => hk.elim) ?aF ?aO ?aB ?aS ?aL ?_
      (case aP => exact k98_mkM _ _ _ (⟨rdOf ByteArray.empty t496 0, t504⟩ : S98))
      (case aB => exact (uW HB.out))
      (case aF => exact (fun _ _ => trivial))
      (case aO => exact (uR HO_4.out))
      (case aS => exact (below_size (uW HB.out)))
      (case aL => have := LMc15.out; omega)
      intro v506 w21 ho hb hg hat
      rw [← Ny505.out] at ho
      replace HO_5 := Aside0.mk (Kd.R_over' (uR HO_5.out) (Kd.R_typed (uR HO_4.out)) (by decide) hg)
      replace HB := Aside0.mk (hb)
      replace HR503 := Aside0.mk ((show Kd.C Kd.string w21 A20 y500.length y500 from by rw [Ny500.out, KA20.out]; exact Kd.C_drop (m := 1) (c := co18) ((Kd.R_reads' (Kd.R_over' (uR HO498.out) (Kd.R_typed (uR HO_4.out)) (by decide) hg)).2.2) KL20.out ((Kd.R_reads' (Kd.R_over' (uR HO498.out) (Kd.R_typed (uR HO_4.out)) (by decide) hg)).2.1)))
      replace HO498 := Aside0.mk (Kd.R_over' (uR HO498.out) (Kd.R_typed (uR HO_4.out)) (by decide) hg)
      have HO507 := Aside0.mk (ho)
      clear HO_4
      clear ho hb hg hat
      refine hK.out _ _ ?_
      clear hK K
      refine norm_ (a' := ?_) ?_ ?_
      rotate_left
      ·
       show Act.put _ (some 35) _ = _
       simp only [Act.put, List.setIfInBounds_toArray, List.set_cons_zero, List.set_cons_succ, i64_w, i32_w]
       rfl
      refine p1 10 (some 4) ?_
      refine done_ (done_of HT_.out (by kernel_rfl)) ?_
      try go_wp2
      go_roundg k1
      case measure => have := HK1.out; omega
      case rel => exact ⟨(y505), (wrap64 (x6_1 + 1)), rs_, H', ⟨by have := HK1.out; omega⟩, ⟨uR HO507.out⟩, ⟨by exact uR <| Kd.R_mono HO_5.out (fun _ hk => trivial)⟩, ⟨uW HB.out⟩⟩
    ·
     rw [if_neg c5] at H
     have c5b0 : decide (x6_1 < (t488.length : Int)) = false := decide_eq_false c5
     clear c5
     obtain ⟨⟨t491, t492⟩, A22, H⟩ := bs H
     try dsimp only at H
     simp only [Option.some.injEq, Prod.mk.injEq] at H
     obtain ⟨rfl, rfl⟩ := H
     obtain ⟨Ao23, co23, eo23⟩ := Kd.R_slice HO_5.out
     subst eo23
     obtain ⟨Ao24, co24, eo24⟩ := Kd.R_slice HO_4.out
     subst eo24
     go_wp2_with (first | (refine gL (some 37) rfl Tryz.func78 #[.slice Ao24 x4_1.length co24] ?_; (with_reducible refine (r03_Canon.calls k1 _ _ x4_1 t491 t492 _ ?side1 ?side2 A22.out).mono ?_); (case side1 => exact uC <| (Kd.R_reads' HO_4.out).2.2); (case side2 => exact (Kd.R_reads' HO_4.out).2.1); rintro e w25 ⟨v493, rfl, ho0, hb⟩; refine ⟨_, rfl, ?_⟩; replace HO_5 := cR HO_5 hb; have HO494 := Aside0.mk (Kd.R_lower (Kd.R_new' ho0 (Kd.R_lt (uR HO_4.out))) (below_size (uW HB.out))); replace HO_4 := Aside0.mk (Kd.R_elder' (uR HO_4.out) (Kd.R_base ho0) hb); replace HB := cW HB hb; (try clear hb); (try clear ho0)))
     go_ret2
     exact ⟨_, re_, by exact uR <| Kd.R_mono HO494.out (fun _ hk => trivial), uW HB.out⟩
def r03_Text.l0 : Nat → List (S98) → List ByteArray → Int → Option (ByteArray)
 | 0, _, _, _ => none
 | k + 1, x0, x3, x4 => if x4 < (x0.length : Int) then (if 0 ≤ x4 then (if ((rd_T98 x0 x4).f0).size + 1 ≤ 9223372036854775807 then (if (((rd_T98 x0 x4).f0) ++ (⟨#[61]⟩ : ByteArray)).size + ((rd_T98 x0 x4).f1).size ≤ 9223372036854775807 then (if x3.length < 8796093022208 then (r03_Text.l0 k x0 (x3 ++ [(((rd_T98 x0 x4).f0) ++ (⟨#[61]⟩ : ByteArray)) ++ ((rd_T98 x0 x4).f1)]) (wrap64 (x4 + 1))) else (none)) else (none)) else (none)) else (none)) else ((r02_Join.f k (⟨#[44]⟩ : ByteArray) x3).bind fun t513 => (some t513))
def r03_Text.f (k : Nat) (l0 : List (S98)) : Option (ByteArray) := r03_Text.l0 k l0 ([] : List ByteArray) 0
theorem r03_Text.mono_l : ∀ k, (∀ y0 y1 y2, LeC (r03_Text.l0 k y0 y1 y2) (r03_Text.l0 (k + 1) y0 y1 y2))
 | 0 => fun _ _ _ => ⟨fun r h => by simp [r03_Text.l0] at h⟩
 | k + 1 => by have ih0 := r03_Text.mono_l k; exact fun _ _ _ => by unfold r03_Text.l0; exact lm
theorem r03_Text.mono : ∀ a0 k, LeO (r03_Text.f k a0) (r03_Text.f (k + 1) a0) := by
 intro a0 k
 have ih0 := r03_Text.mono_l k
 unfold r03_Text.f
 exact lo
instance r03_Text.mI {a0 k} : LeC (r03_Text.f k a0) (r03_Text.f (k + 1) a0) := ⟨r03_Text.mono _ _⟩
def r03_Text.T5 : Bool × List (List Nat × List Nat) := (true, [([], []), ([], []), ([], []), ([1, 2], [1, 2]), ([3], [3]), ([4], [4]), ([5], [5]), ([], []), ([], []), ([7, 8], [7, 8]), ([9], [9]), ([10], [10]), ([6, 11], [6, 11]), ([12], [12]), ([0, 13], [0, 13]), ([14, 14, 0, 1, 2, 3, 4, 5, 6, 7, 8, 9, 10, 11, 12, 13, 14], [0, 14])])
def r03_Text.B5 : List Nat := [0, 0, 0, 6, 14, 30, 62, 0, 0, 384, 896, 1920, 4094, 8190, 16383, 32767]
theorem r03_Text.tab5 : rtab .any (opsOf Tryz.f62 5) = r03_Text.T5 := by kernel_rfl
theorem r03_Text.bits5 : waitsOk r03_Text.T5.2 r03_Text.B5 = true := by kernel_rfl
theorem r03_Text.calls (k : Nat) (A0 : Option Addr) (c0 : Nat) (l0 : List (S98)) (r : ByteArray) (w : World) (hr0 : Kd.C k98 w A0 l0.length l0) (hc0 : l0.length ≤ c0) (h : r03_Text.f k l0 = some r) :
 Calls Tryz.prog 62 #[.slice A0 l0.length c0] w fun e w' => e = .returned (.string r) ∧ Below w.heap.size w w' := by
 have HR0 := Aside0.mk hr0
 have HC0 := Aside0.mk hc0
 clear hr0 hc0
 have HB := Aside0.mk (Below.refl w.heap.size w)
 have H : (r03_Text.l0 k l0 ([] : List ByteArray) 0) = some r := h
 clear h
 have H' := Aside0.mk H
 clear H
 go_enter Tryz.func62, Tryz.ntmps62
 go_wp2
 go_loopg [3, 4] k (fun kq v3 v4 w' => ∃ (x3_1 : List ByteArray) (x4_1 : Int), v4 = .int .i64 x4_1 ∧ Aside0 (r03_Text.l0 kq l0 x3_1 x4_1 = some r) ∧ Aside0 (kq ≤ k) ∧ Aside0 (Kd.R Kd.string 9 w' w.heap.size (fun _ => True) v3 x3_1) ∧ Aside0 (Below w.heap.size w w'))
 case atStart => exact ⟨(([] : List ByteArray)), (0), rs_, H', ⟨Nat.le_refl _⟩, ⟨nl_⟩, ⟨uW HB.out⟩⟩
 case round =>
  clear H'
  obtain ⟨x3_1, x4_1, rfl, HA, HK1, HO_3, HB⟩ := hrel
  cases gk with
  | zero => exact absurd HA.out (by simp [r03_Text.l0])
  | succ k1 =>
   have H := HA.out
   clear HA
   simp only [r03_Text.l0] at H
   by_cases c2 : x4_1 < (l0.length : Int)
   ·
    rw [if_pos c2] at H
    have c2b0 : decide (x4_1 < (l0.length : Int)) = true := decide_eq_true c2
    clear c2
    obtain ⟨c3b0, H⟩ := gdd H
    obtain ⟨c4, H⟩ := gd H
    have c4b0 := eq_true c4
    have c4b1 : decide (((rd_T98 l0 x4_1).f0).size + 1 ≤ 9223372036854775807) = true := decide_eq_true c4
    try have c4b2 : (9223372036854775807 < ((rd_T98 l0 x4_1).f0).size + 1) = False := eq_false (Nat.not_lt.2 c4)
    obtain ⟨c5, H⟩ := gd H
    have c5b0 := eq_true c5
    have c5b1 : decide ((((rd_T98 l0 x4_1).f0) ++ (⟨#[61]⟩ : ByteArray)).size + ((rd_T98 l0 x4_1).f1).size ≤ 9223372036854775807) = true := decide_eq_true c5
    try have c5b2 : (9223372036854775807 < (((rd_T98 l0 x4_1).f0) ++ (⟨#[61]⟩ : ByteArray)).size + ((rd_T98 l0 x4_1).f1).size) = False := eq_false (Nat.not_lt.2 c5)
    try have c5b8 := c5b2
    try simp only [ByteArray.size_append] at c5b8
    try have c5b9 := c5b2
    try simp only [ByteArray.size_append, show (⟨#[61]⟩ : ByteArray).size = 1 from rfl] at c5b9
    obtain ⟨c6, H⟩ := gd H
    have LMc6 := Aside0.mk c6
    clear c6
    obtain ⟨y510, hy510⟩ : ∃ y_ : List ByteArray, y_ = (x3_1 ++ [(((rd_T98 l0 x4_1).f0) ++ (⟨#[61]⟩ : ByteArray)) ++ ((rd_T98 l0 x4_1).f1)]) := ⟨_, rfl⟩
    replace H : (r03_Text.l0 k1 l0 y510 (wrap64 (x4_1 + 1))) = some r := by first | (rw [hy510]; with_reducible exact H) | (have H2_ := (Option.bind_some _ _).symm.trans H; rw [hy510]; with_reducible exact H2_) | (have H2_ := (Option.bind_some _ _).symm.trans H; with_reducible exact H2_) | with_reducible exact H | (rw [hy510]; exact H) | exact H
    have Ny510 := Aside0.mk hy510
    clear hy510
    have H' := Aside0.mk H
    clear H
    try go_wp2
    replace HO_3 := Aside0.mk (Kd.R_drew HO_3.out)
    replace HB := Aside0.mk (below_drew1 HB.out)
    have p508 : 0 ≤ (x4_1 : Int) := od
    have q508 : x4_1 < (l0.length : Int) := od
    obtain ⟨ad508, e508, hx508_0, hx508_1⟩ := at_T98 HR0.out x4_1 p508 q508
    have hw508_1 := hx508_1
    have hw508_0 := hx508_0
    cases e508
    replace hx508_0 := kc HB hx508_0
    replace hx508_1 := kc HB hx508_1
    replace p508 := eq_true p508
    replace q508 := eq_true q508
    have p509 : 0 ≤ (x4_1 : Int) := od
    have q509 : x4_1 < (l0.length : Int) := od
    obtain ⟨ad509, e509, hx509_0, hx509_1⟩ := at_T98 HR0.out x4_1 p509 q509
    have hw509_1 := hx509_1
    have hw509_0 := hx509_0
    obtain rfl : ad508 = ad509 := (by injection e509)
    replace hx509_0 := kc HB hx509_0
    replace hx509_1 := kc HB hx509_1
    replace p509 := eq_true p509
    replace q509 := eq_true q509
    refine start_ (n := 16) (S := fun w' => w'.cell? (ad508.add ((x4_1).toNat * 2)) = some (.string ((rd_T98 l0 x4_1).f0)) ∧ w'.cell? ⟨(ad508.add ((x4_1).toNat * 2)).block, (ad508.add ((x4_1).toNat * 2)).off + 1, none⟩ = some (.string ((rd_T98 l0 x4_1).f1)) ∧ w'.cell? (ad508.add ((x4_1).toNat * 2)) = some (.string ((rd_T98 l0 x4_1).f0)) ∧ w'.cell? ⟨(ad508.add ((x4_1).toNat * 2)).block, (ad508.add ((x4_1).toNat * 2)).off + 1, none⟩ = some (.string ((rd_T98 l0 x4_1).f1))) (ds := []) _ (by kernel_rfl) rfl rfl ⟨(kc HB hw508_0), (kc HB hw508_1), (kc HB hw509_0), (kc HB hw509_1)⟩ (fun hHeld => ?_); refine with_tabW r03_Text.tab5 r03_Text.bits5 (fun HT_ HW_ => ?_)
    generalize wr.drew = w7 at HO_3 HB hx508_0 hx508_1 hx509_0 hx509_1 hHeld ⊢
    refine p1 0 (some 11) ?_
    refine p1 1 (some 12) ?_
    refine p1 2 (some 13) ?_
    refine p1 3 (some 14) ?_
    refine p1 4 (some 15) ?_
    refine p1 7 (some 18) ?_
    refine p1 8 (some 19) ?_
    refine p1 9 (some 20) ?_
    refine p1 10 (some 21) ?_
    refine t1 5 (some 16) rfl rfl hHeld (Or.inl ⟨by rfl, by rintro w' ⟨s0, s1, s2, s3⟩; go_simp; with_reducible rfl⟩) ?_
    refine p1 6 (some 17) ?_
    refine t1 11 (some 22) rfl rfl hHeld (Or.inl ⟨by rfl, by rintro w' ⟨s0, s1, s2, s3⟩; go_simp; with_reducible rfl⟩) ?_
    refine p1 12 (some 23) ?_
    refine o1 13 (some 24) rfl rfl (fun K hK => ?_)
    refine value_ (w1 := ?_) (v := ?_) (by rfl) rfl ?_ ?_
    rotate_left 2
    ·
     go_simp
     constructor
     ·
      rfl
     ·
      rfl
    refine hK.out _ _ ⟨(World.cell?_alloc_lt _ _ _ (World.block_lt_of_cell? _ _ ((kc HB hw508_0)))).trans ((kc HB hw508_0)), (World.cell?_alloc_lt _ _ _ (World.block_lt_of_cell? _ _ ((kc HB hw508_1)))).trans ((kc HB hw508_1)), (World.cell?_alloc_lt _ _ _ (World.block_lt_of_cell? _ _ ((kc HB hw509_0)))).trans ((kc HB hw509_0)), (World.cell?_alloc_lt _ _ _ (World.block_lt_of_cell? _ _ ((kc HB hw509_1)))).trans ((kc HB hw509_1))⟩ (fun hHeld => ?_)
    clear hK K
    refine norm_ (a' := ?_) ?_ ?_
    rotate_left
    ·
     show Act.put _ (some 24) _ = _
     simp only [Act.put, List.setIfInBounds_toArray, List.set_cons_zero, List.set_cons_succ, i64_w, i32_w]
     rfl
    refine o1 14 (some 25) rfl rfl (fun K hK => ?_)
    refine Kd.R_append_step Kd.string (w0 := w) w.heap.size (by rfl) (.tmp 11) (.tmp 24) 52 9 (.string ⟨#[]⟩) 16 rfl Tryz.underlying52 info9 rfl (by decide) (by omega) u3 x3_1 ((((rd_T98 l0 x4_1).f0) ++ (⟨#[61]⟩ : ByteArray)) ++ ((rd_T98 l0 x4_1).f1)) [.string ((((rd_T98 l0 x4_1).f0) ++ (⟨#[61]⟩ : ByteArray)) ++ ((rd_T98 l0 x4_1).f1))] (fun _ => True) (fun _ => False) rfl rfl ?aP (fun _ hk => hk.elim) ?aF ?aO ?aB ?aS ?aL ?_
    (case aP => exact rfl)
    (case aB => exact (uW HB.out))
    (case aF => exact (fun _ _ => trivial))
    (case aO => exact (uR HO_3.out))
    (case aS => exact (below_size (uW HB.out)))
    (case aL => have := LMc6.out; omega)
    intro v511 w8 ho hb hg hat
    rw [← Ny510.out] at ho
    replace HB := Aside0.mk (hb)
    have HO512 := Aside0.mk (ho)
    clear HO_3
    clear ho hb hg hat
    refine hK.out _ _ ⟨(kc HB hw508_0), (kc HB hw508_1), (kc HB hw509_0), (kc HB hw509_1)⟩ (fun hHeld => ?_)
    clear hK K
    refine norm_ (a' := ?_) ?_ ?_
    rotate_left
    ·
     show Act.put _ (some 25) _ = _
     simp only [Act.put, List.setIfInBounds_toArray, List.set_cons_zero, List.set_cons_succ, i64_w, i32_w]
     rfl
    refine p1 15 (some 3) ?_
    refine done_ (done_of HT_.out (by kernel_rfl)) ?_
    try go_wp2
    go_roundg k1
    case measure => have := HK1.out; omega
    case rel => exact ⟨(y510), (wrap64 (x4_1 + 1)), rs_, H', ⟨by have := HK1.out; omega⟩, ⟨uR HO512.out⟩, ⟨uW HB.out⟩⟩
   ·
    rw [if_neg c2] at H
    have c2b0 : decide (x4_1 < (l0.length : Int)) = false := decide_eq_false c2
    clear c2
    obtain ⟨t513, A9, H⟩ := bs H
    try dsimp only at H
    obtain rfl := Option.some.inj H
    obtain ⟨Ao10, co10, eo10⟩ := Kd.R_slice HO_3.out
    subst eo10
    go_wp2_with (first | (refine gL (some 27) rfl Tryz.func35 #[.string (⟨#[44]⟩ : ByteArray), .slice Ao10 x3_1.length co10] ?_; (with_reducible refine (r02_Join.calls k1 (⟨#[44]⟩ : ByteArray) _ _ x3_1 t513 _ ?side1 ?side2 A9.out).mono ?_); (case side1 => exact uC <| (Kd.R_reads' HO_3.out).2.2); (case side2 => exact (Kd.R_reads' HO_3.out).2.1); rintro e w' ⟨rfl, ⟨nd, rfl⟩⟩; refine ⟨_, rfl, ?_⟩))
    go_ret
    exact ⟨re_, uW HB.out⟩
def r08_group.f (k : Nat) (a0 : ByteArray) : Option (Int) := (r03_Parse.f k a0).bind fun bt514 => (if bt514.2 = 0 then ((r03_Text.f k bt514.1).bind fun t518 => (if t518.toList = a0.toList then (some 0) else (some 2))) else (some bt514.2))
theorem r08_group.mono : ∀ a0 k, LeO (r08_group.f k a0) (r08_group.f (k + 1) a0) := by
 intro a0 k
 unfold r08_group.f
 exact lo
instance r08_group.mI {a0 k} : LeC (r08_group.f k a0) (r08_group.f (k + 1) a0) := ⟨r08_group.mono _ _⟩
theorem r08_group.calls (k : Nat) (a0 : ByteArray) (r : Int) (w : World) (h : r08_group.f k a0 = some r) :
 Calls Tryz.prog 51 #[.string a0] w fun e w' => e = .returned (.int .i64 r) ∧ Below w.heap.size w w' := by
 have HB := Aside0.mk (Below.refl w.heap.size w)
 have H : ((r03_Parse.f k a0).bind fun bt514 => (if bt514.2 = 0 then ((r03_Text.f k bt514.1).bind fun t518 => (if t518.toList = a0.toList then (some 0) else (some 2))) else (some bt514.2))) = some r := h
 clear h
 obtain ⟨⟨t514, t515⟩, A2, H⟩ := bs H
 try dsimp only at H
 by_cases c3 : t515 = 0
 ·
  rw [if_pos c3] at H
  have c3b0 : (t515 == 0) = true := beq_iff_eq.mpr c3
  have c3b1 : (t515 != 0) = false := bne_eq_false_iff_eq.mpr c3
  clear c3
  obtain ⟨t518, A4, H⟩ := bs H
  try dsimp only at H
  by_cases c5 : t518.toList = a0.toList
  ·
   rw [if_pos c5] at H
   have c5b0 : (t518.toList == a0.toList) = true := beq_iff_eq.mpr c5
   have c5b1 : (t518.toList != a0.toList) = false := bne_eq_false_iff_eq.mpr c5
   clear c5
   obtain rfl := Option.some.inj H
   go_enter Tryz.func51, Tryz.ntmps51
   go_wp2_with (first | (refine gL (some 7) rfl Tryz.func61 #[.string a0] ?_; (with_reducible refine (r03_Parse.calls k a0 t514 t515 _ A2.out).mono ?_); rintro e w6 ⟨v516, rfl, ho0, hb⟩; refine ⟨_, rfl, ?_⟩; have HO517 := Aside0.mk (Kd.R_lower ho0 (below_size (uW HB.out))); replace HB := cW HB hb; (try clear hb); (try clear ho0); obtain ⟨Ao7, co7, eo7⟩ := Kd.R_slice HO517.out; subst eo7) | (refine gL (some 14) rfl Tryz.func62 #[.slice Ao7 t514.length co7] ?_; (with_reducible refine (r03_Text.calls k _ _ t514 t518 _ ?side1 ?side2 A4.out).mono ?_); (case side1 => exact uC <| (Kd.R_reads' HO517.out).2.2); (case side2 => exact (Kd.R_reads' HO517.out).2.1); rintro e w8 ⟨rfl, hb⟩; refine ⟨_, rfl, ?_⟩; replace HO517 := cR HO517 hb; replace HB := cW HB hb; (try clear hb)))
   go_ret
   exact ⟨re_, uW HB.out⟩
  ·
   rw [if_neg c5] at H
   have c5b0 : (t518.toList == a0.toList) = false := beq_eq_false_iff_ne.mpr c5
   have c5b1 : (t518.toList != a0.toList) = true := bne_iff_ne.mpr c5
   obtain rfl := Option.some.inj H
   go_enter Tryz.func51, Tryz.ntmps51
   go_wp2_with (first | (refine gL (some 7) rfl Tryz.func61 #[.string a0] ?_; (with_reducible refine (r03_Parse.calls k a0 t514 t515 _ A2.out).mono ?_); rintro e w9 ⟨v516, rfl, ho0, hb⟩; refine ⟨_, rfl, ?_⟩; have HO517 := Aside0.mk (Kd.R_lower ho0 (below_size (uW HB.out))); replace HB := cW HB hb; (try clear hb); (try clear ho0); obtain ⟨Ao10, co10, eo10⟩ := Kd.R_slice HO517.out; subst eo10) | (refine gL (some 14) rfl Tryz.func62 #[.slice Ao10 t514.length co10] ?_; (with_reducible refine (r03_Text.calls k _ _ t514 t518 _ ?side1 ?side2 A4.out).mono ?_); (case side1 => exact uC <| (Kd.R_reads' HO517.out).2.2); (case side2 => exact (Kd.R_reads' HO517.out).2.1); rintro e w11 ⟨rfl, hb⟩; refine ⟨_, rfl, ?_⟩; replace HO517 := cR HO517 hb; replace HB := cW HB hb; (try clear hb)))
   go_ret
   exact ⟨re_, uW HB.out⟩
 ·
  rw [if_neg c3] at H
  have c3b0 : (t515 == 0) = false := beq_eq_false_iff_ne.mpr c3
  have c3b1 : (t515 != 0) = true := bne_iff_ne.mpr c3
  obtain rfl := Option.some.inj H
  go_enter Tryz.func51, Tryz.ntmps51
  go_wp2_with (first | (refine gL (some 7) rfl Tryz.func61 #[.string a0] ?_; (with_reducible refine (r03_Parse.calls k a0 t514 t515 _ A2.out).mono ?_); rintro e w12 ⟨v516, rfl, ho0, hb⟩; refine ⟨_, rfl, ?_⟩; have HO517 := Aside0.mk (Kd.R_lower ho0 (below_size (uW HB.out))); replace HB := cW HB hb; (try clear hb); (try clear ho0)))
  go_ret
  exact ⟨re_, uW HB.out⟩
end Go.Proofs.YtgcbejidponoaaaGreatDoor.X
