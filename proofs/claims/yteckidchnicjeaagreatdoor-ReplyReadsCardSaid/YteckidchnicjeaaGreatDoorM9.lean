/- Printed by a program of this session's own: what functions of the program compute, and that the machine computes it. No condition of its own. -/
import Derived.Test.YteckidchnicjeaaGreatDoorM3
import Derived.Test.YteckidchnicjeaaGreatDoorM8
namespace Go.Proofs.YteckidchnicjeaaGreatDoor.X
open Go.RowKit Go.Proofs.YteckidchnicjeaaGreatDoorW.PrintWords Go.Proofs.YteckidchnicjeaaGreatDoorW.PrintLast Go.Proofs.YteckidchnicjeaaGreatDoorW.PrintMore
attribute [local go_sem] max2_int min2_int max_two min_two max_three min_three max_four min_four
set_option linter.unusedVariables false
set_option linter.unusedSimpArgs false
set_option maxHeartbeats 8000000
set_option maxRecDepth 100000
theorem r01_Read.wtd {a : Int} (h0 : -9223372036854775808 ≤ a) (h1 : a ≤ 9223372036854775807) : wrap64 (Int.tdiv a 10) = Int.tdiv a 10 := by
 have e : Int.tdiv a 10 = if 0 ≤ a then a / 10 else -((-a) / 10) := by
  split
  ·
   rename_i h; exact Int.tdiv_eq_ediv_of_nonneg h
  ·
   rename_i h
   have h2 : Int.tdiv a 10 = -(Int.tdiv (-a) 10) := by rw [Int.neg_tdiv, Int.neg_neg]
   rw [h2, Int.tdiv_eq_ediv_of_nonneg (by omega)]
 rw [e]
 unfold wrap64
 split <;> omega
mutual
def r01_Read.j0 : Nat → ByteArray → ByteArray → Bool → Option (Int × Int)
 | 0, _, _, _ => none
 | k + 1, x0, x4, x17 => if x17 = true then (if 1 ≤ (x4.size : Int) then (r01_Read.j1 k x0 (x4.extract 1 x4.size)) else (none)) else (r01_Read.j1 k x0 x4)
def r01_Read.j1 : Nat → ByteArray → ByteArray → Option (Int × Int)
 | 0, _, _ => none
 | k + 1, x0, x4 => if (x4.size : Int) = 0 then (r01_Read.j2 k x0 x4 true) else (if 0 < (x4.size : Int) then (if (bt x4 0) = 48 then (r01_Read.j2 k x0 x4 (decide ((x0.size : Int) > 1))) else (r01_Read.j2 k x0 x4 false)) else (none))
def r01_Read.j2 : Nat → ByteArray → ByteArray → Bool → Option (Int × Int)
 | 0, _, _, _ => none
 | k + 1, x0, x4, x32 => if x32 = true then (some (0, 2)) else (r01_Read.l0 k x0 x4 0)
def r01_Read.l0 : Nat → ByteArray → ByteArray → Int → Option (Int × Int)
 | 0, _, _, _ => none
 | k + 1, x0, x4, x5 => if x5 < (x4.size : Int) then (if 0 ≤ x5 then (if (bt x4 x5) < 48 then (some (0, 2)) else (if (bt x4 x5) > 57 then (some (0, 2)) else (r01_Read.l0 k x0 x4 (wrap64 (x5 + 1))))) else (none)) else (r01_Read.l1 k x0 x4 0 0)
def r01_Read.l1 : Nat → ByteArray → ByteArray → Int → Int → Option (Int × Int)
 | 0, _, _, _, _ => none
 | k + 1, x0, x4, x6, x7 => if x7 < (x4.size : Int) then (if 0 ≤ x7 then (if x6 < (wrap64 (Int.tdiv ((-9223372036854775808) + (((bt x4 x7) - 48) % 256)) 10)) then (some (0, 3)) else (r01_Read.l1 k x0 x4 (wrap64 ((wrap64 (10 * x6)) - (((bt x4 x7) - 48) % 256))) (wrap64 (x7 + 1)))) else (none)) else (if (x4.size : Int) < (x0.size : Int) then (some (x6, 0)) else (if x6 = (-9223372036854775808) then (some (0, 3)) else (some (wrap64 (-x6), 0))))
end
def r01_Read.f (k : Nat) (a0 : ByteArray) : Option (Int × Int) := if (a0.size : Int) > 1 then (if 0 < (a0.size : Int) then (r01_Read.j0 k a0 a0 ((bt a0 0) == 45)) else (none)) else (r01_Read.j0 k a0 a0 false)
theorem r01_Read.mono_l : ∀ k, (∀ y0 y1 y2, LeC (r01_Read.j0 k y0 y1 y2) (r01_Read.j0 (k + 1) y0 y1 y2)) ∧ (∀ y0 y1, LeC (r01_Read.j1 k y0 y1) (r01_Read.j1 (k + 1) y0 y1)) ∧ (∀ y0 y1 y2, LeC (r01_Read.j2 k y0 y1 y2) (r01_Read.j2 (k + 1) y0 y1 y2)) ∧ (∀ y0 y1 y2, LeC (r01_Read.l0 k y0 y1 y2) (r01_Read.l0 (k + 1) y0 y1 y2)) ∧ (∀ y0 y1 y2 y3, LeC (r01_Read.l1 k y0 y1 y2 y3) (r01_Read.l1 (k + 1) y0 y1 y2 y3))
 | 0 => ⟨fun _ _ _ => ⟨fun r h => by simp [r01_Read.j0] at h⟩, fun _ _ => ⟨fun r h => by simp [r01_Read.j1] at h⟩, fun _ _ _ => ⟨fun r h => by simp [r01_Read.j2] at h⟩, fun _ _ _ => ⟨fun r h => by simp [r01_Read.l0] at h⟩, fun _ _ _ _ => ⟨fun r h => by simp [r01_Read.l1] at h⟩⟩
 | k + 1 => by obtain ⟨ih0, ih1, ih2, ih3, ih4⟩ := r01_Read.mono_l k; exact ⟨fun _ _ _ => by unfold r01_Read.j0; exact lm, fun _ _ => by unfold r01_Read.j1; exact lm, fun _ _ _ => by unfold r01_Read.j2; exact lm, fun _ _ _ => by unfold r01_Read.l0; exact lm, fun _ _ _ _ => by unfold r01_Read.l1; exact lm⟩
theorem r01_Read.mono : ∀ a0 k, LeO (r01_Read.f k a0) (r01_Read.f (k + 1) a0) := by
 intro a0 k
 obtain ⟨ih0, ih1, ih2, ih3, ih4⟩ := r01_Read.mono_l k
 unfold r01_Read.f
 exact lo
instance r01_Read.mI {a0 k} : LeC (r01_Read.f k a0) (r01_Read.f (k + 1) a0) := ⟨r01_Read.mono _ _⟩
theorem r01_Read.calls (k : Nat) (a0 : ByteArray) (r1 : Int) (r2 : Int) (w : World) (h : r01_Read.f k a0 = some (r1, r2)) :
 Calls Tryz.prog 56 #[.string a0] w fun e w' => e = .returned (.tuple #[.int .i64 r1, .int .i64 r2]) ∧ Drawn0 w w' := by
 have H : (if (a0.size : Int) > 1 then (if 0 < (a0.size : Int) then (r01_Read.j0 k a0 a0 ((bt a0 0) == 45)) else (none)) else (r01_Read.j0 k a0 a0 false)) = some (r1, r2) := h
 clear h
 have HC2 := Aside0.mk H
 clear H
 go_enter Tryz.func56, Tryz.ntmps56
 go_upto_region 2 with (fail)
 go_cut [17] (fun v17 wc => ∃ (kq : Nat) (x17_1 : Bool), v17 = .bool x17_1 ∧ Aside0 (r01_Read.j0 kq a0 a0 x17_1 = some (r1, r2)) ∧ Aside0 (kq ≤ k) ∧ Drawn0 w wc)
 case first =>
  have H := HC2.out
  clear HC2
  by_cases c3 : (a0.size : Int) > 1
  ·
   rw [if_pos c3] at H
   have c3b0 : decide (1 < (a0.size : Int)) = true := decide_eq_true c3
   have c3b1 : decide (1 < a0.size) = true := decide_eq_true (by omega)
   clear c3
   (first | rw [c3b0] | (simp only [i64_w, i32_w]; rw [c3b0]) | skip)
   obtain ⟨c4, H⟩ := gd H
   have c4b0 : decide (0 < (a0.size : Int)) = true := decide_eq_true c4
   have c4b1 : decide (0 < a0.size) = true := decide_eq_true (by omega)
   clear c4
   have H' := Aside0.mk H
   clear H
   have p5 : 0 ≤ (0 : Int) := (by omega)
   have q5 : 0 < a0.size := (by have : (0 : Int) < (a0.size : Int) := od; omega)
   have hx5 : ∀ h : 0 < a0.size, ((a0[0]'h).toNat : Int) = bt a0 0 := bt_at a0 0
   clear p5
   have qi5 : (0 < (a0.size : Int)) = True := eq_true (od)
   replace q5 := eq_true q5
   go_wp2
   go_meet
   case rel => exact ⟨_, (((bt a0 0) == 45)), rs_, H', ⟨by first | omega | exact Nat.le_refl _⟩, dr_⟩
  ·
   rw [if_neg c3] at H
   have c3b0 : decide (1 < (a0.size : Int)) = false := decide_eq_false c3
   have c3b1 : decide (1 < a0.size) = false := decide_eq_false (by omega)
   clear c3
   (first | rw [c3b0] | (simp only [i64_w, i32_w]; rw [c3b0]) | skip)
   have H' := Aside0.mk H
   clear H
   go_wp2
   go_meet
   case rel => exact ⟨_, (false), rs_, H', ⟨by first | omega | exact Nat.le_refl _⟩, dr_⟩
 case rest =>
  clear HC2
  try clear p2
  try clear c3
  try clear c3b0
  try clear c3b1
  try clear c4
  try clear c4b0
  try clear c4b1
  try clear c5
  try clear p5
  try clear q5
  try clear hx5
  try clear qi5
  try clear p5
  try clear q5
  obtain ⟨kq, x17_1, rfl, HA, HJ1, ⟨mc1, rfl⟩⟩ := hcut
  cases kq with
  | zero => exact absurd HA.out (by simp [r01_Read.j0])
  | succ kj1 =>
   have H := HA.out
   clear HA
   simp only [r01_Read.j0] at H
   have HC6 := Aside0.mk H
   clear H
   go_upto_if 17 with (fail)
   go_cut [4] (fun v4 wc => ∃ (kq : Nat) (x4_5 : ByteArray), v4 = .string x4_5 ∧ Aside0 (r01_Read.j1 kq a0 x4_5 = some (r1, r2)) ∧ Aside0 (kq ≤ kj1) ∧ Drawn0 w wc)
   case first =>
    have H := HC6.out
    clear HC6
    by_cases c7 : x17_1 = true
    ·
     subst c7
     rw [if_pos rfl] at H
     obtain ⟨c8, H⟩ := gd H
     have c8b0 := eq_true c8
     have c8b1 : decide (1 ≤ (a0.size : Int)) = true := decide_eq_true c8
     clear c8
     have H' := Aside0.mk H
     clear H
     go_wp2
     go_meet
     case rel => exact ⟨_, (a0.extract 1 a0.size), rs_, H', ⟨by have := HJ1.out; first | omega | exact Nat.le_refl _⟩, dr_⟩
    ·
     replace c7 := Bool.eq_false_iff.mpr c7
     subst c7
     rw [if_neg (show ¬ (false = true) by decide)] at H
     have H' := Aside0.mk H
     clear H
     go_wp2
     go_meet
     case rel => exact ⟨_, (a0), rs_, H', ⟨by have := HJ1.out; first | omega | exact Nat.le_refl _⟩, dr_⟩
   case rest =>
    clear HC6
    try clear c1
    try clear p2
    try clear c3
    try clear c3b0
    try clear c3b1
    try clear c4
    try clear c4b0
    try clear c4b1
    try clear c5
    try clear p5
    try clear q5
    try clear hx5
    try clear qi5
    try clear c7
    try clear c8
    try clear c8b0
    try clear c8b1
    try clear p2
    try clear p5
    try clear q5
    obtain ⟨kq, x4_5, rfl, HA, HJ5, ⟨mc5, rfl⟩⟩ := hcut
    cases kq with
    | zero => exact absurd HA.out (by simp [r01_Read.j1])
    | succ kj5 =>
     have H := HA.out
     clear HA
     simp only [r01_Read.j1] at H
     have HC9 := Aside0.mk H
     clear H
     go_upto_region 4 with (fail)
     go_cut [32] (fun v32 wc => ∃ (kq : Nat) (x32_8 : Bool), v32 = .bool x32_8 ∧ Aside0 (r01_Read.j2 kq a0 x4_5 x32_8 = some (r1, r2)) ∧ Aside0 (kq ≤ kj5) ∧ Drawn0 w wc)
     case first =>
      have H := HC9.out
      clear HC9
      by_cases c10 : (x4_5.size : Int) = 0
      ·
       rw [if_pos c10] at H
       have c10b0 : ((x4_5.size : Int) == 0) = true := beq_iff_eq.mpr c10
       have c10b1 : ((x4_5.size : Int) != 0) = false := bne_eq_false_iff_eq.mpr c10
       clear c10
       (first | rw [c10b0] | (simp only [i64_w, i32_w]; rw [c10b0]) | skip)
       have H' := Aside0.mk H
       clear H
       go_wp2
       go_meet
       case rel => exact ⟨_, (true), rs_, H', ⟨by have := HJ1.out; have := HJ5.out; first | omega | exact Nat.le_refl _⟩, dr_⟩
      ·
       rw [if_neg c10] at H
       have c10b0 : ((x4_5.size : Int) == 0) = false := beq_eq_false_iff_ne.mpr c10
       have c10b1 : ((x4_5.size : Int) != 0) = true := bne_iff_ne.mpr c10
       (first | rw [c10b0] | (simp only [i64_w, i32_w]; rw [c10b0]) | skip)
       obtain ⟨c11, H⟩ := gd H
       have c11b0 : decide (0 < (x4_5.size : Int)) = true := decide_eq_true c11
       have c11b1 : decide (0 < x4_5.size) = true := decide_eq_true (by omega)
       clear c11
       by_cases c13 : (bt x4_5 0) = 48
       ·
        rw [if_pos c13] at H
        have c13b0 : ((bt x4_5 0) == 48) = true := beq_iff_eq.mpr c13
        have c13b1 : ((bt x4_5 0) != 48) = false := bne_eq_false_iff_eq.mpr c13
        clear c13
        have H' := Aside0.mk H
        clear H
        have p12 : 0 ≤ (0 : Int) := (by omega)
        have q12 : 0 < x4_5.size := (by have : (0 : Int) < (x4_5.size : Int) := od; omega)
        have hx12 : ∀ h : 0 < x4_5.size, ((x4_5[0]'h).toNat : Int) = bt x4_5 0 := bt_at x4_5 0
        clear p12
        have qi12 : (0 < (x4_5.size : Int)) = True := eq_true (od)
        replace q12 := eq_true q12
        go_wp2
        go_meet
        case rel => exact ⟨_, (decide ((a0.size : Int) > 1)), rs_, H', ⟨by have := HJ1.out; have := HJ5.out; first | omega | exact Nat.le_refl _⟩, dr_⟩
       ·
        rw [if_neg c13] at H
        have c13b0 : ((bt x4_5 0) == 48) = false := beq_eq_false_iff_ne.mpr c13
        have c13b1 : ((bt x4_5 0) != 48) = true := bne_iff_ne.mpr c13
        have H' := Aside0.mk H
        clear H
        have p12 : 0 ≤ (0 : Int) := (by omega)
        have q12 : 0 < x4_5.size := (by have : (0 : Int) < (x4_5.size : Int) := od; omega)
        have hx12 : ∀ h : 0 < x4_5.size, ((x4_5[0]'h).toNat : Int) = bt x4_5 0 := bt_at x4_5 0
        clear p12
        have qi12 : (0 < (x4_5.size : Int)) = True := eq_true (od)
        replace q12 := eq_true q12
        go_wp2
        go_meet
        case rel => exact ⟨_, (false), rs_, H', ⟨by have := HJ1.out; have := HJ5.out; first | omega | exact Nat.le_refl _⟩, dr_⟩
     case rest =>
      clear HC9
      try clear c1
      try clear p1
      try clear q1
      try clear hx1
      try clear qi1
      try clear p2
      try clear c3
      try clear c3b0
      try clear c3b1
      try clear c4
      try clear c4b0
      try clear c4b1
      try clear c5
      try clear p5
      try clear q5
      try clear hx5
      try clear qi5
      try clear c7
      try clear c8
      try clear c8b0
      try clear c8b1
      try clear c10
      try clear c10b0
      try clear c10b1
      try clear c11
      try clear c11b0
      try clear c11b1
      try clear p12
      try clear q12
      try clear hx12
      try clear qi12
      try clear c13
      try clear c13b0
      try clear c13b1
      try clear p12
      try clear p2
      try clear p5
      try clear q12
      try clear q5
      obtain ⟨kq, x32_8, rfl, HA, HJ8, ⟨mc8, rfl⟩⟩ := hcut
      cases kq with
      | zero => exact absurd HA.out (by simp [r01_Read.j2])
      | succ kj8 =>
       have H := HA.out
       clear HA
       simp only [r01_Read.j2] at H
       by_cases c14 : x32_8 = true
       ·
        subst c14
        rw [if_pos rfl] at H
        simp only [Option.some.injEq, Prod.mk.injEq] at H
        obtain ⟨rfl, rfl⟩ := H
        go_wp2
        go_ret2
        exact ⟨rs_, dr_⟩
       ·
        replace c14 := Bool.eq_false_iff.mpr c14
        subst c14
        rw [if_neg (show ¬ (false = true) by decide)] at H
        have H' := Aside0.mk H
        clear H
        go_wp2
        go_loopg [5] kj8 (fun kq v5 w' => ∃ (x5_4 : Int), v5 = .int .i64 x5_4 ∧ Aside0 (r01_Read.l0 kq a0 x4_5 x5_4 = some (r1, r2)) ∧ Aside0 (kq ≤ kj8) ∧ Drawn0 w w')
        case atStart => exact ⟨(0), rs_, H', ⟨Nat.le_refl _⟩, dr_⟩
        case round =>
         clear H'
         try clear c1
         try clear p1
         try clear q1
         try clear hx1
         try clear qi1
         try clear p2
         try clear c3
         try clear c3b0
         try clear c3b1
         try clear c4
         try clear c4b0
         try clear c4b1
         try clear c5
         try clear p5
         try clear q5
         try clear hx5
         try clear qi5
         try clear c7
         try clear c8
         try clear c8b0
         try clear c8b1
         try clear c10
         try clear c10b0
         try clear c10b1
         try clear c11
         try clear c11b0
         try clear c11b1
         try clear p12
         try clear q12
         try clear hx12
         try clear qi12
         try clear c13
         try clear c13b0
         try clear c13b1
         try clear c14
         try clear p1
         try clear p12
         try clear p2
         try clear p5
         try clear q1
         try clear q12
         try clear q5
         obtain ⟨x5_4, rfl, HA, HK4, ⟨m4, rfl⟩⟩ := hrel
         cases gk with
         | zero => exact absurd HA.out (by simp [r01_Read.l0])
         | succ k4 =>
          have H := HA.out
          clear HA
          simp only [r01_Read.l0] at H
          by_cases c15 : x5_4 < (x4_5.size : Int)
          ·
           rw [if_pos c15] at H
           have c15b0 : decide (x5_4 < (x4_5.size : Int)) = true := decide_eq_true c15
           clear c15
           obtain ⟨c16b0, H⟩ := gdd H
           by_cases c18 : (bt x4_5 x5_4) < 48
           ·
            rw [if_pos c18] at H
            have c18b0 : decide ((bt x4_5 x5_4) < 48) = true := decide_eq_true c18
            clear c18
            simp only [Option.some.injEq, Prod.mk.injEq] at H
            obtain ⟨rfl, rfl⟩ := H
            have p17 : 0 ≤ (x5_4 : Int) := od
            have q17 : x5_4 < (x4_5.size : Int) := od
            have hx17 := bt_at x4_5 x5_4
            replace p17 := eq_true p17
            replace q17 := eq_true q17
            go_wp2
            go_ret2
            exact ⟨rs_, dr_⟩
           ·
            rw [if_neg c18] at H
            have c18b0 : decide ((bt x4_5 x5_4) < 48) = false := decide_eq_false c18
            clear c18
            by_cases c20 : (bt x4_5 x5_4) > 57
            ·
             rw [if_pos c20] at H
             have c20b0 : decide (57 < (bt x4_5 x5_4)) = true := decide_eq_true c20
             clear c20
             simp only [Option.some.injEq, Prod.mk.injEq] at H
             obtain ⟨rfl, rfl⟩ := H
             have p17 : 0 ≤ (x5_4 : Int) := od
             have q17 : x5_4 < (x4_5.size : Int) := od
             have hx17 := bt_at x4_5 x5_4
             replace p17 := eq_true p17
             replace q17 := eq_true q17
             have p19 : 0 ≤ (x5_4 : Int) := od
             have q19 : x5_4 < (x4_5.size : Int) := od
             have hx19 := bt_at x4_5 x5_4
             replace p19 := eq_true p19
             replace q19 := eq_true q19
             go_wp2
             go_ret2
             exact ⟨rs_, dr_⟩
            ·
             rw [if_neg c20] at H
             have c20b0 : decide (57 < (bt x4_5 x5_4)) = false := decide_eq_false c20
             clear c20
             have H' := Aside0.mk H
             clear H
             have p17 : 0 ≤ (x5_4 : Int) := od
             have q17 : x5_4 < (x4_5.size : Int) := od
             have hx17 := bt_at x4_5 x5_4
             replace p17 := eq_true p17
             replace q17 := eq_true q17
             have p19 : 0 ≤ (x5_4 : Int) := od
             have q19 : x5_4 < (x4_5.size : Int) := od
             have hx19 := bt_at x4_5 x5_4
             replace p19 := eq_true p19
             replace q19 := eq_true q19
             go_wp2
             go_roundg k4
             case measure => have := HJ1.out; have := HJ5.out; have := HJ8.out; have := HK4.out; omega
             case rel => exact ⟨(wrap64 (x5_4 + 1)), rs_, H', ⟨by have := HJ1.out; have := HJ5.out; have := HJ8.out; have := HK4.out; omega⟩, dr_⟩
          ·
           rw [if_neg c15] at H
           have c15b0 : decide (x5_4 < (x4_5.size : Int)) = false := decide_eq_false c15
           clear c15
           have H' := Aside0.mk H
           clear H
           go_wp2
           go_loopg [6, 7] k4 (fun kq v6 v7 w' => ∃ (x6_5 : Int) (x7_5 : Int), v6 = .int .i64 x6_5 ∧ v7 = .int .i64 x7_5 ∧ Aside0 (r01_Read.l1 kq a0 x4_5 x6_5 x7_5 = some (r1, r2)) ∧ Aside0 (kq ≤ k4) ∧ Drawn0 w w')
           case atStart => exact ⟨(0), (0), rs_, rs_, H', ⟨Nat.le_refl _⟩, dr_⟩
           case round =>
            clear H'
            try clear c1
            try clear p1
            try clear q1
            try clear hx1
            try clear qi1
            try clear c2
            try clear p2
            try clear c3
            try clear c3b0
            try clear c3b1
            try clear c4
            try clear c4b0
            try clear c4b1
            try clear c5
            try clear p5
            try clear q5
            try clear hx5
            try clear qi5
            try clear p6
            try clear c7
            try clear c8
            try clear c8b0
            try clear c8b1
            try clear c10
            try clear c10b0
            try clear c10b1
            try clear c11
            try clear c11b0
            try clear c11b1
            try clear p12
            try clear q12
            try clear hx12
            try clear qi12
            try clear c13
            try clear c13b0
            try clear c13b1
            try clear c14
            try clear c15
            try clear c15b0
            try clear c16
            try clear c16b0
            try clear p17
            try clear q17
            try clear hx17
            try clear c18
            try clear c18b0
            try clear p19
            try clear q19
            try clear hx19
            try clear c20
            try clear c20b0
            try clear p1
            try clear p12
            try clear p17
            try clear p19
            try clear p2
            try clear p5
            try clear q1
            try clear q12
            try clear q17
            try clear q19
            try clear q5
            obtain ⟨x6_5, x7_5, rfl, rfl, HA, HK5, ⟨m5, rfl⟩⟩ := hrel
            cases gk with
            | zero => exact absurd HA.out (by simp [r01_Read.l1])
            | succ k5 =>
             have H := HA.out
             clear HA
             simp only [r01_Read.l1] at H
             by_cases c21 : x7_5 < (x4_5.size : Int)
             ·
              rw [if_pos c21] at H
              have c21b0 : decide (x7_5 < (x4_5.size : Int)) = true := decide_eq_true c21
              clear c21
              obtain ⟨c22b0, H⟩ := gdd H
              by_cases c24 : x6_5 < (wrap64 (Int.tdiv ((-9223372036854775808) + (((bt x4_5 x7_5) - 48) % 256)) 10))
              ·
               rw [if_pos c24] at H
               have c24b0 : decide (x6_5 < (wrap64 (Int.tdiv ((-9223372036854775808) + (((bt x4_5 x7_5) - 48) % 256)) 10))) = true := decide_eq_true c24
               have c24b7 : decide (x6_5 < Int.tdiv ((-9223372036854775808) + (((bt x4_5 x7_5) - 48) % 256)) 10) = true := by rw [← r01_Read.wtd (a := ((-9223372036854775808) + (((bt x4_5 x7_5) - 48) % 256))) (by omega) (by omega)]; exact c24b0
               clear c24
               simp only [Option.some.injEq, Prod.mk.injEq] at H
               obtain ⟨rfl, rfl⟩ := H
               have p23 : 0 ≤ (x7_5 : Int) := od
               have q23 : x7_5 < (x4_5.size : Int) := od
               have hx23 := bt_at x4_5 x7_5
               replace p23 := eq_true p23
               replace q23 := eq_true q23
               go_wp2
               go_ret2
               exact ⟨rs_, dr_⟩
              ·
               rw [if_neg c24] at H
               have c24b0 : decide (x6_5 < (wrap64 (Int.tdiv ((-9223372036854775808) + (((bt x4_5 x7_5) - 48) % 256)) 10))) = false := decide_eq_false c24
               have c24b7 : decide (x6_5 < Int.tdiv ((-9223372036854775808) + (((bt x4_5 x7_5) - 48) % 256)) 10) = false := by rw [← r01_Read.wtd (a := ((-9223372036854775808) + (((bt x4_5 x7_5) - 48) % 256))) (by omega) (by omega)]; exact c24b0
               clear c24
               have H' := Aside0.mk H
               clear H
               have p23 : 0 ≤ (x7_5 : Int) := od
               have q23 : x7_5 < (x4_5.size : Int) := od
               have hx23 := bt_at x4_5 x7_5
               replace p23 := eq_true p23
               replace q23 := eq_true q23
               go_wp2
               go_roundg k5
               case measure => have := HJ1.out; have := HJ5.out; have := HJ8.out; have := HK4.out; have := HK5.out; omega
               case rel => exact ⟨(wrap64 ((wrap64 (10 * x6_5)) - (((bt x4_5 x7_5) - 48) % 256))), (wrap64 (x7_5 + 1)), rs_, rs_, H', ⟨by have := HJ1.out; have := HJ5.out; have := HJ8.out; have := HK4.out; have := HK5.out; omega⟩, dr_⟩
             ·
              rw [if_neg c21] at H
              have c21b0 : decide (x7_5 < (x4_5.size : Int)) = false := decide_eq_false c21
              clear c21
              by_cases c25 : (x4_5.size : Int) < (a0.size : Int)
              ·
               rw [if_pos c25] at H
               have c25b0 : decide ((x4_5.size : Int) < (a0.size : Int)) = true := decide_eq_true c25
               have c25b1 : decide (x4_5.size < a0.size) = true := decide_eq_true (Int.ofNat_lt.mp c25)
               clear c25
               simp only [Option.some.injEq, Prod.mk.injEq] at H
               obtain ⟨rfl, rfl⟩ := H
               go_wp2
               go_ret2
               exact ⟨rs_, dr_⟩
              ·
               rw [if_neg c25] at H
               have c25b0 : decide ((x4_5.size : Int) < (a0.size : Int)) = false := decide_eq_false c25
               have c25b1 : decide (x4_5.size < a0.size) = false := decide_eq_false (fun h => c25 (Int.ofNat_lt.mpr h))
               clear c25
               by_cases c26 : x6_5 = (-9223372036854775808)
               ·
                rw [if_pos c26] at H
                have c26b0 : (x6_5 == (-9223372036854775808)) = true := beq_iff_eq.mpr c26
                have c26b1 : (x6_5 != (-9223372036854775808)) = false := bne_eq_false_iff_eq.mpr c26
                clear c26
                simp only [Option.some.injEq, Prod.mk.injEq] at H
                obtain ⟨rfl, rfl⟩ := H
                go_wp2
                go_ret2
                exact ⟨rs_, dr_⟩
               ·
                rw [if_neg c26] at H
                have c26b0 : (x6_5 == (-9223372036854775808)) = false := beq_eq_false_iff_ne.mpr c26
                have c26b1 : (x6_5 != (-9223372036854775808)) = true := bne_iff_ne.mpr c26
                simp only [Option.some.injEq, Prod.mk.injEq] at H
                obtain ⟨rfl, rfl⟩ := H
                go_wp2
                go_ret2
                exact ⟨rs_, dr_⟩
def r23_stamp.f (k : Nat) (a0 : ByteArray) : Option (Int × Int) := (r01_Read.f k a0).bind fun bt437 => (if bt437.2 = 0 then (if bt437.1 < 0 then (some (0, 3)) else (some (bt437.1, bt437.2))) else (some (bt437.1, bt437.2)))
theorem r23_stamp.mono : ∀ a0 k, LeO (r23_stamp.f k a0) (r23_stamp.f (k + 1) a0) := by
 intro a0 k
 unfold r23_stamp.f
 exact lo
instance r23_stamp.mI {a0 k} : LeC (r23_stamp.f k a0) (r23_stamp.f (k + 1) a0) := ⟨r23_stamp.mono _ _⟩
theorem r23_stamp.calls (k : Nat) (a0 : ByteArray) (r1 : Int) (r2 : Int) (w : World) (h : r23_stamp.f k a0 = some (r1, r2)) :
 Calls Tryz.prog 48 #[.string a0] w fun e w' => e = .returned (.tuple #[.int .i64 r1, .int .i64 r2]) ∧ Drawn0 w w' := by
 have H : ((r01_Read.f k a0).bind fun bt437 => (if bt437.2 = 0 then (if bt437.1 < 0 then (some (0, 3)) else (some (bt437.1, bt437.2))) else (some (bt437.1, bt437.2)))) = some (r1, r2) := h
 clear h
 obtain ⟨⟨t437, t438⟩, A2, H⟩ := bs H
 try dsimp only at H
 by_cases c3 : t438 = 0
 ·
  rw [if_pos c3] at H
  have c3b0 : (t438 == 0) = true := beq_iff_eq.mpr c3
  have c3b1 : (t438 != 0) = false := bne_eq_false_iff_eq.mpr c3
  clear c3
  by_cases c4 : t437 < 0
  ·
   rw [if_pos c4] at H
   have c4b0 : decide (t437 < 0) = true := decide_eq_true c4
   clear c4
   simp only [Option.some.injEq, Prod.mk.injEq] at H
   obtain ⟨rfl, rfl⟩ := H
   go_enter Tryz.func48, Tryz.ntmps48
   go_wp2_with (first | (refine gL (some 8) rfl Tryz.func56 #[.string a0] ?_; (with_reducible refine (r01_Read.calls k a0 t437 t438 _ A2.out).mono ?_); rintro e w' ⟨rfl, ⟨nd, rfl⟩⟩; refine ⟨_, rfl, ?_⟩))
   go_ret2
   exact ⟨rs_, dr_⟩
  ·
   rw [if_neg c4] at H
   have c4b0 : decide (t437 < 0) = false := decide_eq_false c4
   clear c4
   simp only [Option.some.injEq, Prod.mk.injEq] at H
   obtain ⟨rfl, rfl⟩ := H
   go_enter Tryz.func48, Tryz.ntmps48
   go_wp2_with (first | (refine gL (some 8) rfl Tryz.func56 #[.string a0] ?_; (with_reducible refine (r01_Read.calls k a0 t437 t438 _ A2.out).mono ?_); rintro e w' ⟨rfl, ⟨nd, rfl⟩⟩; refine ⟨_, rfl, ?_⟩))
   go_ret2
   exact ⟨rs_, dr_⟩
 ·
  rw [if_neg c3] at H
  have c3b0 : (t438 == 0) = false := beq_eq_false_iff_ne.mpr c3
  have c3b1 : (t438 != 0) = true := bne_iff_ne.mpr c3
  simp only [Option.some.injEq, Prod.mk.injEq] at H
  obtain ⟨rfl, rfl⟩ := H
  go_enter Tryz.func48, Tryz.ntmps48
  go_wp2_with (first | (refine gL (some 8) rfl Tryz.func56 #[.string a0] ?_; (with_reducible refine (r01_Read.calls k a0 t437 t438 _ A2.out).mono ?_); rintro e w' ⟨rfl, ⟨nd, rfl⟩⟩; refine ⟨_, rfl, ?_⟩))
  go_ret2
  exact ⟨rs_, dr_⟩
def r23_ReadStored.f (k : Nat) (a0 : ByteArray) : Option (Int × Int) := (r02_Split.f k a0 32).bind fun t439 => (if (t439.length : Int) = 2 then (if 0 < (t439.length : Int) then (if (rdOf ByteArray.empty t439 0).toList = ([111, 107] : List UInt8) then (if 1 < (t439.length : Int) then ((r23_stamp.f k (rdOf ByteArray.empty t439 1)).bind fun bt444 => (some (bt444.1, bt444.2))) else (none)) else (some (0, 2))) else (none)) else (some (0, 2)))
theorem r23_ReadStored.mono : ∀ a0 k, LeO (r23_ReadStored.f k a0) (r23_ReadStored.f (k + 1) a0) := by
 intro a0 k
 unfold r23_ReadStored.f
 exact lo
instance r23_ReadStored.mI {a0 k} : LeC (r23_ReadStored.f k a0) (r23_ReadStored.f (k + 1) a0) := ⟨r23_ReadStored.mono _ _⟩
theorem r23_ReadStored.calls (k : Nat) (a0 : ByteArray) (r1 : Int) (r2 : Int) (w : World) (h : r23_ReadStored.f k a0 = some (r1, r2)) :
 Calls Tryz.prog 23 #[.string a0] w fun e w' => e = .returned (.tuple #[.int .i64 r1, .int .i64 r2]) ∧ Below w.heap.size w w' := by
 have HB := Aside0.mk (Below.refl w.heap.size w)
 have H : ((r02_Split.f k a0 32).bind fun t439 => (if (t439.length : Int) = 2 then (if 0 < (t439.length : Int) then (if (rdOf ByteArray.empty t439 0).toList = ([111, 107] : List UInt8) then (if 1 < (t439.length : Int) then ((r23_stamp.f k (rdOf ByteArray.empty t439 1)).bind fun bt444 => (some (bt444.1, bt444.2))) else (none)) else (some (0, 2))) else (none)) else (some (0, 2)))) = some (r1, r2) := h
 clear h
 obtain ⟨t439, A2, H⟩ := bs H
 try dsimp only at H
 by_cases c3 : (t439.length : Int) = 2
 ·
  rw [if_pos c3] at H
  have c3b0 : ((t439.length : Int) == 2) = true := beq_iff_eq.mpr c3
  have c3b1 : ((t439.length : Int) != 2) = false := bne_eq_false_iff_eq.mpr c3
  clear c3
  obtain ⟨c4, H⟩ := gd H
  have c4b0 : decide (0 < (t439.length : Int)) = true := decide_eq_true c4
  have c4b1 : decide (0 < t439.length) = true := decide_eq_true (by omega)
  clear c4
  by_cases c5 : (rdOf ByteArray.empty t439 0).toList = ([111, 107] : List UInt8)
  ·
   rw [if_pos c5] at H
   have c5b0 : ((rdOf ByteArray.empty t439 0).toList == ([111, 107] : List UInt8)) = true := beq_iff_eq.mpr c5
   have c5b1 : ((rdOf ByteArray.empty t439 0).toList != ([111, 107] : List UInt8)) = false := bne_eq_false_iff_eq.mpr c5
   clear c5
   obtain ⟨c6, H⟩ := gd H
   have c6b0 : decide (1 < (t439.length : Int)) = true := decide_eq_true c6
   have c6b1 : decide (1 < t439.length) = true := decide_eq_true (by omega)
   clear c6
   obtain ⟨⟨t444, t445⟩, A7, H⟩ := bs H
   try dsimp only at H
   simp only [Option.some.injEq, Prod.mk.injEq] at H
   obtain ⟨rfl, rfl⟩ := H
   go_enter Tryz.func23, Tryz.ntmps23
   go_wp2_with (first | (refine gL (some 6) rfl Tryz.func47 #[.string a0, .int .u8 32] ?_; (with_reducible refine (r02_Split.calls k a0 32 t439 _ A2.out).mono ?_); rintro e w8 ⟨v440, rfl, ho0, hb⟩; refine ⟨_, rfl, ?_⟩; have HO441 := Aside0.mk (Kd.R_lower ho0 (below_size (uW HB.out))); replace HB := cW HB hb; (try clear hb); (try clear ho0); obtain ⟨Ao9, co9, eo9⟩ := Kd.R_slice HO441.out; subst eo9; have p442 : 0 ≤ (0 : Int) := (by omega); have q442 : 0 < (t439.length : Int) := od; obtain ⟨ad442, e442, hx442_0⟩ := Kd.at_string (Kd.R_reads' HO441.out).2.2 0 p442 q442; cases e442; have qi442 : (0 < t439.length) = True := eq_true (by omega); (try rw [show ((0 : Int)).toNat = 0 from rfl] at hx442_0); (try rw [Addr.add_zero'] at hx442_0); replace p442 := eq_true p442; replace q442 := eq_true q442; have p443 : 0 ≤ (1 : Int) := (by omega); have q443 : 1 < (t439.length : Int) := od; obtain ⟨ad443, e443, hx443_0⟩ := Kd.at_string (Kd.R_reads' HO441.out).2.2 1 p443 q443; obtain rfl : ad442 = ad443 := (by injection e443); (try simp only [show (1 : Int).toNat = 1 from rfl, Nat.reduceMul, Nat.reduceEqDiff, Go.Addr.add, ↓reduceIte] at hx443_0); have qi443 : (1 < t439.length) = True := eq_true (by omega); (try rw [show ((1 : Int)).toNat = 1 from rfl] at hx443_0); replace p443 := eq_true p443; replace q443 := eq_true q443) | (refine gL (some 19) rfl Tryz.func48 #[.string (rdOf ByteArray.empty t439 1)] ?_; (with_reducible refine (r23_stamp.calls k (rdOf ByteArray.empty t439 1) t444 t445 _ A7.out).mono ?_); rintro e w' ⟨rfl, ⟨nd, rfl⟩⟩; refine ⟨_, rfl, ?_⟩))
   go_ret2
   exact ⟨re_, uW HB.out⟩
  ·
   rw [if_neg c5] at H
   have c5b0 : ((rdOf ByteArray.empty t439 0).toList == ([111, 107] : List UInt8)) = false := beq_eq_false_iff_ne.mpr c5
   have c5b1 : ((rdOf ByteArray.empty t439 0).toList != ([111, 107] : List UInt8)) = true := bne_iff_ne.mpr c5
   simp only [Option.some.injEq, Prod.mk.injEq] at H
   obtain ⟨rfl, rfl⟩ := H
   go_enter Tryz.func23, Tryz.ntmps23
   go_wp2_with (first | (refine gL (some 6) rfl Tryz.func47 #[.string a0, .int .u8 32] ?_; (with_reducible refine (r02_Split.calls k a0 32 t439 _ A2.out).mono ?_); rintro e w10 ⟨v440, rfl, ho0, hb⟩; refine ⟨_, rfl, ?_⟩; have HO441 := Aside0.mk (Kd.R_lower ho0 (below_size (uW HB.out))); replace HB := cW HB hb; (try clear hb); (try clear ho0); obtain ⟨Ao11, co11, eo11⟩ := Kd.R_slice HO441.out; subst eo11; have p442 : 0 ≤ (0 : Int) := (by omega); have q442 : 0 < (t439.length : Int) := od; obtain ⟨ad442, e442, hx442_0⟩ := Kd.at_string (Kd.R_reads' HO441.out).2.2 0 p442 q442; cases e442; have qi442 : (0 < t439.length) = True := eq_true (by omega); (try rw [show ((0 : Int)).toNat = 0 from rfl] at hx442_0); (try rw [Addr.add_zero'] at hx442_0); replace p442 := eq_true p442; replace q442 := eq_true q442))
   go_ret2
   exact ⟨re_, uW HB.out⟩
 ·
  rw [if_neg c3] at H
  have c3b0 : ((t439.length : Int) == 2) = false := beq_eq_false_iff_ne.mpr c3
  have c3b1 : ((t439.length : Int) != 2) = true := bne_iff_ne.mpr c3
  simp only [Option.some.injEq, Prod.mk.injEq] at H
  obtain ⟨rfl, rfl⟩ := H
  go_enter Tryz.func23, Tryz.ntmps23
  go_wp2_with (first | (refine gL (some 6) rfl Tryz.func47 #[.string a0, .int .u8 32] ?_; (with_reducible refine (r02_Split.calls k a0 32 t439 _ A2.out).mono ?_); rintro e w12 ⟨v440, rfl, ho0, hb⟩; refine ⟨_, rfl, ?_⟩; have HO441 := Aside0.mk (Kd.R_lower ho0 (below_size (uW HB.out))); replace HB := cW HB hb; (try clear hb); (try clear ho0); obtain ⟨Ao13, co13, eo13⟩ := Kd.R_slice HO441.out; subst eo13))
  go_ret2
  exact ⟨re_, uW HB.out⟩
def r08_Before.f (a0_0 : Int) (a0_1 : ByteArray) (a0_2 : Int) (a0_3 : Bool) (a1_0 : Int) (a1_1 : ByteArray) (a1_2 : Int) (a1_3 : Bool) : Option (Bool) := if a0_0 < a1_0 then (some true) else (if a0_0 = a1_0 then (some (Op.bytesLess a0_1.toList a1_1.toList)) else (some false))
theorem r08_Before.calls (a0_0 : Int) (a0_1 : ByteArray) (a0_2 : Int) (a0_3 : Bool) (a1_0 : Int) (a1_1 : ByteArray) (a1_2 : Int) (a1_3 : Bool) (r : Bool) (w : World) (h : r08_Before.f a0_0 a0_1 a0_2 a0_3 a1_0 a1_1 a1_2 a1_3 = some r) :
 Calls Tryz.prog 77 #[.agg #[.int .i64 a0_0, .string a0_1, .int .i64 a0_2, .bool a0_3], .agg #[.int .i64 a1_0, .string a1_1, .int .i64 a1_2, .bool a1_3]] w fun e w' => e = .returned (.bool r) ∧ Below w.heap.size w w' := by
 have hu60 := Tryz.underlying60
 have HB := Aside0.mk (Below.refl w.heap.size w)
 have H : (if a0_0 < a1_0 then (some true) else (if a0_0 = a1_0 then (some (Op.bytesLess a0_1.toList a1_1.toList)) else (some false))) = some r := h
 clear h
 by_cases c3 : a0_0 < a1_0
 ·
  rw [if_pos c3] at H
  have c3b0 : decide (a0_0 < a1_0) = true := decide_eq_true c3
  clear c3
  obtain rfl := Option.some.inj H
  go_enter Tryz.func77, Tryz.ntmps77
  go_wp2_with (first | ((with_reducible refine gate_dst (N := 2) rfl ?_); refine bx (N := 2) #[.int .i64 a0_0, .string a0_1, .int .i64 a0_2, .bool a0_3] 60 ?_; intro gb446 hg w4 hbox hb; have BK446 := Aside0.mk (hbox); have GW446 := gw hg (uW HB.out); have GE446 := GW446; replace HB := cW HB hb; clear hb hbox hg) | ((with_reducible refine gate_dst (N := 3) rfl ?_); refine bx (N := 3) #[.int .i64 a1_0, .string a1_1, .int .i64 a1_2, .bool a1_3] 60 ?_; intro gb447 hg w5 hbox hb; have BK447 := Aside0.mk (hbox); have GW447 := gw hg bl; have GE447 := GW447; replace HB := Aside0.mk (below_step bl hb); have NB446_447 := Aside0.mk ((by rw [hg]; exact Nat.ne_of_lt (blk_lt (g := gb446) (o := .cells #[.int .i64 a0_0, .string a0_1, .int .i64 a0_2, .bool a0_3] 60 (0, 0)) (uB BK446.out)) : gb446 ≠ gb447)); have NB447_446 := Aside0.mk ((by rw [hg]; exact Nat.ne_of_gt (blk_lt (g := gb446) (o := .cells #[.int .i64 a0_0, .string a0_1, .int .i64 a0_2, .bool a0_3] 60 (0, 0)) (uB BK446.out)) : gb447 ≠ gb446)); replace BK446 := cB BK446 hb; clear hb hbox hg; have hnb6 := NB446_447.out; have hnc6 := NB447_446.out; obtain ⟨hcz7_0, hcz7_1, hcz7_2, hcz7_3, hfz7_0, hfz7_1, hfz7_2, hfz7_3⟩ := z4 BK446; obtain ⟨hcz8_0, hcz8_1, hcz8_2, hcz8_3, hfz8_0, hfz8_1, hfz8_2, hfz8_3⟩ := z4 BK447))
  go_ret
  exact ⟨re_, bl⟩
 ·
  rw [if_neg c3] at H
  have c3b0 : decide (a0_0 < a1_0) = false := decide_eq_false c3
  clear c3
  by_cases c9 : a0_0 = a1_0
  ·
   rw [if_pos c9] at H
   have c9b0 : (a0_0 == a1_0) = true := beq_iff_eq.mpr c9
   have c9b1 : (a0_0 != a1_0) = false := bne_eq_false_iff_eq.mpr c9
   clear c9
   obtain rfl := Option.some.inj H
   go_enter Tryz.func77, Tryz.ntmps77
   go_wp2_with (first | ((with_reducible refine gate_dst (N := 2) rfl ?_); refine bx (N := 2) #[.int .i64 a0_0, .string a0_1, .int .i64 a0_2, .bool a0_3] 60 ?_; intro gb446 hg w10 hbox hb; have BK446 := Aside0.mk (hbox); have GW446 := gw hg (uW HB.out); have GE446 := GW446; replace HB := cW HB hb; clear hb hbox hg) | ((with_reducible refine gate_dst (N := 3) rfl ?_); refine bx (N := 3) #[.int .i64 a1_0, .string a1_1, .int .i64 a1_2, .bool a1_3] 60 ?_; intro gb447 hg w11 hbox hb; have BK447 := Aside0.mk (hbox); have GW447 := gw hg bl; have GE447 := GW447; replace HB := Aside0.mk (below_step bl hb); have NB446_447 := Aside0.mk ((by rw [hg]; exact Nat.ne_of_lt (blk_lt (g := gb446) (o := .cells #[.int .i64 a0_0, .string a0_1, .int .i64 a0_2, .bool a0_3] 60 (0, 0)) (uB BK446.out)) : gb446 ≠ gb447)); have NB447_446 := Aside0.mk ((by rw [hg]; exact Nat.ne_of_gt (blk_lt (g := gb446) (o := .cells #[.int .i64 a0_0, .string a0_1, .int .i64 a0_2, .bool a0_3] 60 (0, 0)) (uB BK446.out)) : gb447 ≠ gb446)); replace BK446 := cB BK446 hb; clear hb hbox hg; have hnb12 := NB446_447.out; have hnc12 := NB447_446.out; obtain ⟨hcz13_0, hcz13_1, hcz13_2, hcz13_3, hfz13_0, hfz13_1, hfz13_2, hfz13_3⟩ := z4 BK446; obtain ⟨hcz14_0, hcz14_1, hcz14_2, hcz14_3, hfz14_0, hfz14_1, hfz14_2, hfz14_3⟩ := z4 BK447))
   go_ret
   exact ⟨re_, bl⟩
  ·
   rw [if_neg c9] at H
   have c9b0 : (a0_0 == a1_0) = false := beq_eq_false_iff_ne.mpr c9
   have c9b1 : (a0_0 != a1_0) = true := bne_iff_ne.mpr c9
   obtain rfl := Option.some.inj H
   go_enter Tryz.func77, Tryz.ntmps77
   go_wp2_with (first | ((with_reducible refine gate_dst (N := 2) rfl ?_); refine bx (N := 2) #[.int .i64 a0_0, .string a0_1, .int .i64 a0_2, .bool a0_3] 60 ?_; intro gb446 hg w15 hbox hb; have BK446 := Aside0.mk (hbox); have GW446 := gw hg (uW HB.out); have GE446 := GW446; replace HB := cW HB hb; clear hb hbox hg) | ((with_reducible refine gate_dst (N := 3) rfl ?_); refine bx (N := 3) #[.int .i64 a1_0, .string a1_1, .int .i64 a1_2, .bool a1_3] 60 ?_; intro gb447 hg w16 hbox hb; have BK447 := Aside0.mk (hbox); have GW447 := gw hg bl; have GE447 := GW447; replace HB := Aside0.mk (below_step bl hb); have NB446_447 := Aside0.mk ((by rw [hg]; exact Nat.ne_of_lt (blk_lt (g := gb446) (o := .cells #[.int .i64 a0_0, .string a0_1, .int .i64 a0_2, .bool a0_3] 60 (0, 0)) (uB BK446.out)) : gb446 ≠ gb447)); have NB447_446 := Aside0.mk ((by rw [hg]; exact Nat.ne_of_gt (blk_lt (g := gb446) (o := .cells #[.int .i64 a0_0, .string a0_1, .int .i64 a0_2, .bool a0_3] 60 (0, 0)) (uB BK446.out)) : gb447 ≠ gb446)); replace BK446 := cB BK446 hb; clear hb hbox hg; have hnb17 := NB446_447.out; have hnc17 := NB447_446.out; obtain ⟨hcz18_0, hcz18_1, hcz18_2, hcz18_3, hfz18_0, hfz18_1, hfz18_2, hfz18_3⟩ := z4 BK446; obtain ⟨hcz19_0, hcz19_1, hcz19_2, hcz19_3, hfz19_0, hfz19_1, hfz19_2, hfz19_3⟩ := z4 BK447))
   go_ret
   exact ⟨re_, bl⟩
def r08_rise.l0 : Nat → List (S60) → Int → Option (Bool)
 | 0, _, _ => none
 | k + 1, x0, x3 => if x3 < (x0.length : Int) then (if 0 ≤ (wrap64 (x3 - 1)) then (if (wrap64 (x3 - 1)) < (x0.length : Int) then (if 0 ≤ x3 then ((r08_Before.f ((rd_T60 x0 (wrap64 (x3 - 1))).f0) ((rd_T60 x0 (wrap64 (x3 - 1))).f1) ((rd_T60 x0 (wrap64 (x3 - 1))).f2.f0) ((rd_T60 x0 (wrap64 (x3 - 1))).f2.f1) ((rd_T60 x0 x3).f0) ((rd_T60 x0 x3).f1) ((rd_T60 x0 x3).f2.f0) ((rd_T60 x0 x3).f2.f1)).bind fun t450 => (if t450 = true then (r08_rise.l0 k x0 (wrap64 (x3 + 1))) else (some false))) else (none)) else (none)) else (none)) else (some true)
def r08_rise.f (k : Nat) (l0 : List (S60)) : Option (Bool) := r08_rise.l0 k l0 1
theorem r08_rise.mono_l : ∀ k, (∀ y0 y1, LeC (r08_rise.l0 k y0 y1) (r08_rise.l0 (k + 1) y0 y1))
 | 0 => fun _ _ => ⟨fun r h => by simp [r08_rise.l0] at h⟩
 | k + 1 => by have ih0 := r08_rise.mono_l k; exact fun _ _ => by unfold r08_rise.l0; exact lm
theorem r08_rise.mono : ∀ a0 k, LeO (r08_rise.f k a0) (r08_rise.f (k + 1) a0) := by
 intro a0 k
 have ih0 := r08_rise.mono_l k
 unfold r08_rise.f
 exact lo
instance r08_rise.mI {a0 k} : LeC (r08_rise.f k a0) (r08_rise.f (k + 1) a0) := ⟨r08_rise.mono _ _⟩
def r08_rise.T4 : Bool × List (List Nat × List Nat) := (true, [([], []), ([], []), ([1], [1]), ([0, 2], [0, 2]), ([3], [3]), ([], []), ([], []), ([5, 6], [5, 6]), ([7], [7]), ([4, 8], [4, 8]), ([9], [9])])
def r08_rise.B4 : List Nat := [0, 0, 2, 7, 15, 0, 0, 96, 224, 511, 1023]
theorem r08_rise.tab4 : rtab .any (opsOf Tryz.f60 4) = r08_rise.T4 := by kernel_rfl
theorem r08_rise.bits4 : waitsOk r08_rise.T4.2 r08_rise.B4 = true := by kernel_rfl
theorem r08_rise.calls (k : Nat) (A0 : Option Addr) (c0 : Nat) (l0 : List (S60)) (r : Bool) (w : World) (hr0 : Kd.C k60 w A0 l0.length l0) (hc0 : l0.length ≤ c0) (h : r08_rise.f k l0 = some r) :
 Calls Tryz.prog 60 #[.slice A0 l0.length c0] w fun e w' => e = .returned (.bool r) ∧ Below w.heap.size w w' := by
 have hu60 := Tryz.underlying60
 have HR0 := Aside0.mk hr0
 have HC0 := Aside0.mk hc0
 clear hr0 hc0
 have HB := Aside0.mk (Below.refl w.heap.size w)
 have H : (r08_rise.l0 k l0 1) = some r := h
 clear h
 have H' := Aside0.mk H
 clear H
 go_enter Tryz.func60, Tryz.ntmps60
 go_wp2
 go_loopg [3] k (fun kq v3 w' => ∃ (x3_1 : Int), v3 = .int .i64 x3_1 ∧ Aside0 (r08_rise.l0 kq l0 x3_1 = some r) ∧ Aside0 (kq ≤ k) ∧ Aside0 (Below w.heap.size w w'))
 case atStart => exact ⟨(1), rs_, H', ⟨Nat.le_refl _⟩, ⟨uW HB.out⟩⟩
 case round =>
  clear H'
  obtain ⟨x3_1, rfl, HA, HK1, HB⟩ := hrel
  cases gk with
  | zero => exact absurd HA.out (by simp [r08_rise.l0])
  | succ k1 =>
   have H := HA.out
   clear HA
   simp only [r08_rise.l0] at H
   by_cases c2 : x3_1 < (l0.length : Int)
   ·
    rw [if_pos c2] at H
    have c2b0 : decide (x3_1 < (l0.length : Int)) = true := decide_eq_true c2
    clear c2
    obtain ⟨ji3, hji3⟩ : ∃ j_ : Int, (wrap64 (x3_1 - 1)) = j_ := ⟨_, rfl⟩
    (first | rw [hji3] at H | simp only [hji3] at H)
    have hji3w : (IntKind.i64.wrap (x3_1 - 1)) = ji3 := (i64_w _).trans hji3
    obtain ⟨c4b0, H⟩ := gdd H
    obtain ⟨c5b0, H⟩ := gdd H
    obtain ⟨c6b0, H⟩ := gdd H
    obtain ⟨t450, A7, H⟩ := bs H
    try dsimp only at H
    by_cases c8 : t450 = true
    ·
     subst c8
     rw [if_pos rfl] at H
     have H' := Aside0.mk H
     clear H
     try go_wp2
     replace HB := Aside0.mk (below_drew1 HB.out)
     have p448 : 0 ≤ ((ji3) : Int) := od
     have q448 : (ji3) < (l0.length : Int) := od
     obtain ⟨ad448, e448, hx448_0, hx448_1, hx448_2, hx448_3⟩ := at_T60 HR0.out (ji3) p448 q448
     have hw448_3 := hx448_3
     have hw448_2 := hx448_2
     have hw448_1 := hx448_1
     have hw448_0 := hx448_0
     cases e448
     replace hx448_0 := kc HB hx448_0
     replace hx448_1 := kc HB hx448_1
     replace hx448_2 := kc HB hx448_2
     replace hx448_3 := kc HB hx448_3
     replace p448 := eq_true p448
     replace q448 := eq_true q448
     have p449 : 0 ≤ (x3_1 : Int) := od
     have q449 : x3_1 < (l0.length : Int) := od
     obtain ⟨ad449, e449, hx449_0, hx449_1, hx449_2, hx449_3⟩ := at_T60 HR0.out x3_1 p449 q449
     have hw449_3 := hx449_3
     have hw449_2 := hx449_2
     have hw449_1 := hx449_1
     have hw449_0 := hx449_0
     obtain rfl : ad448 = ad449 := (by injection e449)
     replace hx449_0 := kc HB hx449_0
     replace hx449_1 := kc HB hx449_1
     replace hx449_2 := kc HB hx449_2
     replace hx449_3 := kc HB hx449_3
     replace p449 := eq_true p449
     replace q449 := eq_true q449
     refine start_ (n := 11) (S := fun w' => w'.cell? (ad448.add (((ji3)).toNat * 4)) = some (.int .i64 ((rd_T60 l0 (ji3)).f0)) ∧ w'.cell? ⟨(ad448.add (((ji3)).toNat * 4)).block, (ad448.add (((ji3)).toNat * 4)).off + 1, none⟩ = some (.string ((rd_T60 l0 (ji3)).f1)) ∧ w'.cell? ⟨(ad448.add (((ji3)).toNat * 4)).block, (ad448.add (((ji3)).toNat * 4)).off + 2, none⟩ = some (.int .i64 ((rd_T60 l0 (ji3)).f2.f0)) ∧ w'.cell? ⟨(ad448.add (((ji3)).toNat * 4)).block, (ad448.add (((ji3)).toNat * 4)).off + 3, none⟩ = some (.bool ((rd_T60 l0 (ji3)).f2.f1)) ∧ w'.cell? (ad448.add ((x3_1).toNat * 4)) = some (.int .i64 ((rd_T60 l0 x3_1).f0)) ∧ w'.cell? ⟨(ad448.add ((x3_1).toNat * 4)).block, (ad448.add ((x3_1).toNat * 4)).off + 1, none⟩ = some (.string ((rd_T60 l0 x3_1).f1)) ∧ w'.cell? ⟨(ad448.add ((x3_1).toNat * 4)).block, (ad448.add ((x3_1).toNat * 4)).off + 2, none⟩ = some (.int .i64 ((rd_T60 l0 x3_1).f2.f0)) ∧ w'.cell? ⟨(ad448.add ((x3_1).toNat * 4)).block, (ad448.add ((x3_1).toNat * 4)).off + 3, none⟩ = some (.bool ((rd_T60 l0 x3_1).f2.f1))) (ds := []) _ (by kernel_rfl) rfl rfl ⟨(kc HB hw448_0), (kc HB hw448_1), (kc HB hw448_2), (kc HB hw448_3), (kc HB hw449_0), (kc HB hw449_1), (kc HB hw449_2), (kc HB hw449_3)⟩ (fun hHeld => ?_); refine with_tabW r08_rise.tab4 r08_rise.bits4 (fun HT_ HW_ => ?_)
     generalize wr.drew = w9 at HB hx448_0 hx448_1 hx448_2 hx448_3 hx449_0 hx449_1 hx449_2 hx449_3 hHeld ⊢
     refine p1 0 (some 10) ?_
     refine p1 1 (some 11) ?_
     refine p1 2 (some 12) ?_
     refine p1 3 (some 13) ?_
     refine p1 5 (some 15) ?_
     refine p1 6 (some 16) ?_
     refine p1 7 (some 17) ?_
     refine t1 4 (some 14) rfl rfl hHeld (Or.inl ⟨by rfl, by rintro w' ⟨s0, s1, s2, s3, s4, s5, s6, s7⟩; go_simp; with_reducible rfl⟩) ?_
     refine t1 8 (some 18) rfl rfl hHeld (Or.inl ⟨by rfl, by rintro w' ⟨s0, s1, s2, s3, s4, s5, s6, s7⟩; go_simp; with_reducible rfl⟩) ?_
     refine o1 9 (some 19) rfl rfl (fun K hK => ?_)
     refine goes_ Tryz.func77 (by kernel_rfl) rfl #[.agg #[.int .i64 ((rd_T60 l0 (ji3)).f0), .string ((rd_T60 l0 (ji3)).f1), .int .i64 ((rd_T60 l0 (ji3)).f2.f0), .bool ((rd_T60 l0 (ji3)).f2.f1)], .agg #[.int .i64 ((rd_T60 l0 x3_1).f0), .string ((rd_T60 l0 x3_1).f1), .int .i64 ((rd_T60 l0 x3_1).f2.f0), .bool ((rd_T60 l0 x3_1).f2.f1)]] (by rfl) rfl rfl (by (try simp only [List.map_toArray, List.map_cons, List.map_nil]); first | done | (simp only [hji3]; rfl) | rfl | (simp only [List.length_drop, List.length_take]; rfl)) ?_
     with_reducible refine (r08_Before.calls ((rd_T60 l0 (ji3)).f0) ((rd_T60 l0 (ji3)).f1) ((rd_T60 l0 (ji3)).f2.f0) ((rd_T60 l0 (ji3)).f2.f1) ((rd_T60 l0 x3_1).f0) ((rd_T60 l0 x3_1).f1) ((rd_T60 l0 x3_1).f2.f0) ((rd_T60 l0 x3_1).f2.f1) true _ A7.out).mono ?_
     rintro e w10 ⟨rfl, hb⟩
     refine ⟨_, rfl, ?_⟩
     replace HB := cW HB hb
     (try clear hb)
     refine hK.out _ _ ⟨(kc HB hw448_0), (kc HB hw448_1), (kc HB hw448_2), (kc HB hw448_3), (kc HB hw449_0), (kc HB hw449_1), (kc HB hw449_2), (kc HB hw449_3)⟩ (fun hHeld => ?_)
     clear hK K
     refine norm_ (a' := ?_) ?_ ?_
     rotate_left
     ·
      show Act.put _ (some 19) _ = _
      simp only [Act.put, List.setIfInBounds_toArray, List.set_cons_zero, List.set_cons_succ, i64_w, i32_w]
      rfl
     refine p1 10 (some 20) ?_
     refine done_ (done_of HT_.out (by kernel_rfl)) ?_
     try go_wp2
     go_roundg k1
     case measure => have := HK1.out; omega
     case rel => exact ⟨(wrap64 (x3_1 + 1)), rs_, H', ⟨by have := HK1.out; omega⟩, ⟨uW HB.out⟩⟩
    ·
     replace c8 := Bool.eq_false_iff.mpr c8
     subst c8
     rw [if_neg (show ¬ (false = true) by decide)] at H
     obtain rfl := Option.some.inj H
     try go_wp2
     replace HB := Aside0.mk (below_drew1 HB.out)
     have p448 : 0 ≤ ((ji3) : Int) := od
     have q448 : (ji3) < (l0.length : Int) := od
     obtain ⟨ad448, e448, hx448_0, hx448_1, hx448_2, hx448_3⟩ := at_T60 HR0.out (ji3) p448 q448
     have hw448_3 := hx448_3
     have hw448_2 := hx448_2
     have hw448_1 := hx448_1
     have hw448_0 := hx448_0
     cases e448
     replace hx448_0 := kc HB hx448_0
     replace hx448_1 := kc HB hx448_1
     replace hx448_2 := kc HB hx448_2
     replace hx448_3 := kc HB hx448_3
     replace p448 := eq_true p448
     replace q448 := eq_true q448
     have p449 : 0 ≤ (x3_1 : Int) := od
     have q449 : x3_1 < (l0.length : Int) := od
     obtain ⟨ad449, e449, hx449_0, hx449_1, hx449_2, hx449_3⟩ := at_T60 HR0.out x3_1 p449 q449
     have hw449_3 := hx449_3
     have hw449_2 := hx449_2
     have hw449_1 := hx449_1
     have hw449_0 := hx449_0
     obtain rfl : ad448 = ad449 := (by injection e449)
     replace hx449_0 := kc HB hx449_0
     replace hx449_1 := kc HB hx449_1
     replace hx449_2 := kc HB hx449_2
     replace hx449_3 := kc HB hx449_3
     replace p449 := eq_true p449
     replace q449 := eq_true q449
     refine start_ (n := 11) (S := fun w' => w'.cell? (ad448.add (((ji3)).toNat * 4)) = some (.int .i64 ((rd_T60 l0 (ji3)).f0)) ∧ w'.cell? ⟨(ad448.add (((ji3)).toNat * 4)).block, (ad448.add (((ji3)).toNat * 4)).off + 1, none⟩ = some (.string ((rd_T60 l0 (ji3)).f1)) ∧ w'.cell? ⟨(ad448.add (((ji3)).toNat * 4)).block, (ad448.add (((ji3)).toNat * 4)).off + 2, none⟩ = some (.int .i64 ((rd_T60 l0 (ji3)).f2.f0)) ∧ w'.cell? ⟨(ad448.add (((ji3)).toNat * 4)).block, (ad448.add (((ji3)).toNat * 4)).off + 3, none⟩ = some (.bool ((rd_T60 l0 (ji3)).f2.f1)) ∧ w'.cell? (ad448.add ((x3_1).toNat * 4)) = some (.int .i64 ((rd_T60 l0 x3_1).f0)) ∧ w'.cell? ⟨(ad448.add ((x3_1).toNat * 4)).block, (ad448.add ((x3_1).toNat * 4)).off + 1, none⟩ = some (.string ((rd_T60 l0 x3_1).f1)) ∧ w'.cell? ⟨(ad448.add ((x3_1).toNat * 4)).block, (ad448.add ((x3_1).toNat * 4)).off + 2, none⟩ = some (.int .i64 ((rd_T60 l0 x3_1).f2.f0)) ∧ w'.cell? ⟨(ad448.add ((x3_1).toNat * 4)).block, (ad448.add ((x3_1).toNat * 4)).off + 3, none⟩ = some (.bool ((rd_T60 l0 x3_1).f2.f1))) (ds := []) _ (by kernel_rfl) rfl rfl ⟨(kc HB hw448_0), (kc HB hw448_1), (kc HB hw448_2), (kc HB hw448_3), (kc HB hw449_0), (kc HB hw449_1), (kc HB hw449_2), (kc HB hw449_3)⟩ (fun hHeld => ?_); refine with_tabW r08_rise.tab4 r08_rise.bits4 (fun HT_ HW_ => ?_)
     generalize wr.drew = w11 at HB hx448_0 hx448_1 hx448_2 hx448_3 hx449_0 hx449_1 hx449_2 hx449_3 hHeld ⊢
     refine p1 0 (some 10) ?_
     refine p1 1 (some 11) ?_
     refine p1 2 (some 12) ?_
     refine p1 3 (some 13) ?_
     refine p1 5 (some 15) ?_
     refine p1 6 (some 16) ?_
     refine p1 7 (some 17) ?_
     refine t1 4 (some 14) rfl rfl hHeld (Or.inl ⟨by rfl, by rintro w' ⟨s0, s1, s2, s3, s4, s5, s6, s7⟩; go_simp; with_reducible rfl⟩) ?_
     refine t1 8 (some 18) rfl rfl hHeld (Or.inl ⟨by rfl, by rintro w' ⟨s0, s1, s2, s3, s4, s5, s6, s7⟩; go_simp; with_reducible rfl⟩) ?_
     refine o1 9 (some 19) rfl rfl (fun K hK => ?_)
     refine goes_ Tryz.func77 (by kernel_rfl) rfl #[.agg #[.int .i64 ((rd_T60 l0 (ji3)).f0), .string ((rd_T60 l0 (ji3)).f1), .int .i64 ((rd_T60 l0 (ji3)).f2.f0), .bool ((rd_T60 l0 (ji3)).f2.f1)], .agg #[.int .i64 ((rd_T60 l0 x3_1).f0), .string ((rd_T60 l0 x3_1).f1), .int .i64 ((rd_T60 l0 x3_1).f2.f0), .bool ((rd_T60 l0 x3_1).f2.f1)]] (by rfl) rfl rfl (by (try simp only [List.map_toArray, List.map_cons, List.map_nil]); first | done | (simp only [hji3]; rfl) | rfl | (simp only [List.length_drop, List.length_take]; rfl)) ?_
     with_reducible refine (r08_Before.calls ((rd_T60 l0 (ji3)).f0) ((rd_T60 l0 (ji3)).f1) ((rd_T60 l0 (ji3)).f2.f0) ((rd_T60 l0 (ji3)).f2.f1) ((rd_T60 l0 x3_1).f0) ((rd_T60 l0 x3_1).f1) ((rd_T60 l0 x3_1).f2.f0) ((rd_T60 l0 x3_1).f2.f1) false _ A7.out).mono ?_
     rintro e w12 ⟨rfl, hb⟩
     refine ⟨_, rfl, ?_⟩
     replace HB := cW HB hb
     (try clear hb)
     refine hK.out _ _ ⟨(kc HB hw448_0), (kc HB hw448_1), (kc HB hw448_2), (kc HB hw448_3), (kc HB hw449_0), (kc HB hw449_1), (kc HB hw449_2), (kc HB hw449_3)⟩ (fun hHeld => ?_)
     clear hK K
     refine norm_ (a' := ?_) ?_ ?_
     rotate_left
     ·
      show Act.put _ (some 19) _ = _
      simp only [Act.put, List.setIfInBounds_toArray, List.set_cons_zero, List.set_cons_succ, i64_w, i32_w]
      rfl
     refine p1 10 (some 20) ?_
     refine done_ (done_of HT_.out (by kernel_rfl)) ?_
     try go_wp2
     go_ret
     exact ⟨by first | rfl | (simp [errW_none, errW_some] <;> rfl) | (simp only [← hji3]; first | rfl | (simp [errW_none, errW_some] <;> rfl)) | (simp [*, errW_none, errW_some] <;> rfl), uW HB.out⟩
   ·
    rw [if_neg c2] at H
    have c2b0 : decide (x3_1 < (l0.length : Int)) = false := decide_eq_false c2
    clear c2
    obtain rfl := Option.some.inj H
    go_wp2
    go_ret
    exact ⟨re_, uW HB.out⟩
def r02_Join.l0 : Nat → ByteArray → List ByteArray → ByteArray → Int → Option (ByteArray)
 | 0, _, _, _, _ => none
 | k + 1, x0, x1, x5, x6 => if x6 < (x1.length : Int) then (if x6 > 0 then (if x5.size + x0.size ≤ 9223372036854775807 then (if 0 ≤ x6 then (if (x5 ++ x0).size + (rdOf ByteArray.empty x1 x6).size ≤ 9223372036854775807 then (r02_Join.l0 k x0 x1 ((x5 ++ x0) ++ (rdOf ByteArray.empty x1 x6)) (wrap64 (x6 + 1))) else (none)) else (none)) else (none)) else (if 0 ≤ x6 then (if x5.size + (rdOf ByteArray.empty x1 x6).size ≤ 9223372036854775807 then (r02_Join.l0 k x0 x1 (x5 ++ (rdOf ByteArray.empty x1 x6)) (wrap64 (x6 + 1))) else (none)) else (none))) else (some x5)
def r02_Join.f (k : Nat) (a0 : ByteArray) (l1 : List ByteArray) : Option (ByteArray) := r02_Join.l0 k a0 l1 (⟨#[]⟩ : ByteArray) 0
theorem r02_Join.mono_l : ∀ k, (∀ y0 y1 y2 y3, LeC (r02_Join.l0 k y0 y1 y2 y3) (r02_Join.l0 (k + 1) y0 y1 y2 y3))
 | 0 => fun _ _ _ _ => ⟨fun r h => by simp [r02_Join.l0] at h⟩
 | k + 1 => by have ih0 := r02_Join.mono_l k; exact fun _ _ _ _ => by unfold r02_Join.l0; exact lm
theorem r02_Join.mono : ∀ a0 a1 k, LeO (r02_Join.f k a0 a1) (r02_Join.f (k + 1) a0 a1) := by
 intro a0 a1 k
 have ih0 := r02_Join.mono_l k
 unfold r02_Join.f
 exact lo
instance r02_Join.mI {a0 a1 k} : LeC (r02_Join.f k a0 a1) (r02_Join.f (k + 1) a0 a1) := ⟨r02_Join.mono _ _ _⟩
theorem r02_Join.calls (k : Nat) (a0 : ByteArray) (A1 : Option Addr) (c1 : Nat) (l1 : List ByteArray) (r : ByteArray) (w : World) (hr1 : Kd.C Kd.string w A1 l1.length l1) (hc1 : l1.length ≤ c1) (h : r02_Join.f k a0 l1 = some r) :
 Calls Tryz.prog 66 #[.string a0, .slice A1 l1.length c1] w fun e w' => e = .returned (.string r) ∧ Drawn0 w w' := by
 have HR1 := Aside0.mk hr1
 have HC1 := Aside0.mk hc1
 clear hr1 hc1
 have H : (r02_Join.l0 k a0 l1 (⟨#[]⟩ : ByteArray) 0) = some r := h
 clear h
 have H' := Aside0.mk H
 clear H
 go_enter Tryz.func66, Tryz.ntmps66
 go_wp2
 go_loopg [5, 6] k (fun kq v5 v6 w' => ∃ (x5_1 : ByteArray) (x6_1 : Int), v5 = .string x5_1 ∧ v6 = .int .i64 x6_1 ∧ Aside0 (r02_Join.l0 kq a0 l1 x5_1 x6_1 = some r) ∧ Aside0 (kq ≤ k) ∧ Drawn0 w w')
 case atStart => exact ⟨((⟨#[]⟩ : ByteArray)), (0), rs_, rs_, H', ⟨Nat.le_refl _⟩, dr_⟩
 case round =>
  clear H'
  try clear c1
  try clear p2
  obtain ⟨x5_1, x6_1, rfl, rfl, HA, HK1, ⟨m1, rfl⟩⟩ := hrel
  cases gk with
  | zero => exact absurd HA.out (by simp [r02_Join.l0])
  | succ k1 =>
   have H := HA.out
   clear HA
   simp only [r02_Join.l0] at H
   by_cases c3 : x6_1 < (l1.length : Int)
   ·
    rw [if_pos c3] at H
    have c3b0 : decide (x6_1 < (l1.length : Int)) = true := decide_eq_true c3
    clear c3
    by_cases c4 : x6_1 > 0
    ·
     rw [if_pos c4] at H
     have c4b0 : decide (0 < x6_1) = true := decide_eq_true c4
     clear c4
     obtain ⟨c5, H⟩ := gd H
     have c5b0 := eq_true c5
     have c5b1 : decide (x5_1.size + a0.size ≤ 9223372036854775807) = true := decide_eq_true c5
     try have c5b2 : (9223372036854775807 < x5_1.size + a0.size) = False := eq_false (Nat.not_lt.2 c5)
     obtain ⟨c6b0, H⟩ := gdd H
     obtain ⟨c7, H⟩ := gd H
     have c7b0 := eq_true c7
     have c7b1 : decide ((x5_1 ++ a0).size + (rdOf ByteArray.empty l1 x6_1).size ≤ 9223372036854775807) = true := decide_eq_true c7
     try have c7b2 : (9223372036854775807 < (x5_1 ++ a0).size + (rdOf ByteArray.empty l1 x6_1).size) = False := eq_false (Nat.not_lt.2 c7)
     try have c7b8 := c7b2
     try simp only [ByteArray.size_append] at c7b8
     have H' := Aside0.mk H
     clear H
     have p451 : 0 ≤ (x6_1 : Int) := od
     have q451 : x6_1 < (l1.length : Int) := od
     obtain ⟨ad451, e451, hx451_0⟩ := Kd.at_string HR1.out x6_1 p451 q451
     cases e451
     replace p451 := eq_true p451
     replace q451 := eq_true q451
     go_wp2
     go_roundg k1
     case measure => have := HK1.out; omega
     case rel => exact ⟨((x5_1 ++ a0) ++ (rdOf ByteArray.empty l1 x6_1)), (wrap64 (x6_1 + 1)), rs_, rs_, H', ⟨by have := HK1.out; omega⟩, dr_⟩
    ·
     rw [if_neg c4] at H
     have c4b0 : decide (0 < x6_1) = false := decide_eq_false c4
     clear c4
     obtain ⟨c8b0, H⟩ := gdd H
     obtain ⟨c9, H⟩ := gd H
     have c9b0 := eq_true c9
     have c9b1 : decide (x5_1.size + (rdOf ByteArray.empty l1 x6_1).size ≤ 9223372036854775807) = true := decide_eq_true c9
     try have c9b2 : (9223372036854775807 < x5_1.size + (rdOf ByteArray.empty l1 x6_1).size) = False := eq_false (Nat.not_lt.2 c9)
     have H' := Aside0.mk H
     clear H
     have p452 : 0 ≤ (x6_1 : Int) := od
     have q452 : x6_1 < (l1.length : Int) := od
     obtain ⟨ad452, e452, hx452_0⟩ := Kd.at_string HR1.out x6_1 p452 q452
     cases e452
     replace p452 := eq_true p452
     replace q452 := eq_true q452
     go_wp2
     go_roundg k1
     case measure => have := HK1.out; omega
     case rel => exact ⟨(x5_1 ++ (rdOf ByteArray.empty l1 x6_1)), (wrap64 (x6_1 + 1)), rs_, rs_, H', ⟨by have := HK1.out; omega⟩, dr_⟩
   ·
    rw [if_neg c3] at H
    have c3b0 : decide (x6_1 < (l1.length : Int)) = false := decide_eq_false c3
    clear c3
    obtain rfl := Option.some.inj H
    go_wp2
    go_ret
    exact ⟨rs_, dr_⟩
def r02_small.f (a0 : Int) : Option (Bool) := if a0 ≥ 97 then (some (decide (a0 ≤ 122))) else (some false)
theorem r02_small.calls (a0 : Int) (r : Bool) (w : World) (h : r02_small.f a0 = some r) :
 Calls Tryz.prog 172 #[.int .u8 a0] w fun e w' => e = .returned (.bool r) ∧ Drawn0 w w' := by
 have H : (if a0 ≥ 97 then (some (decide (a0 ≤ 122))) else (some false)) = some r := h
 clear h
 by_cases c2 : a0 ≥ 97
 ·
  rw [if_pos c2] at H
  have c2b0 : decide (97 ≤ a0) = true := decide_eq_true c2
  clear c2
  obtain rfl := Option.some.inj H
  go_enter Tryz.func172, Tryz.ntmps172
  go_wp2
  go_ret
  exact ⟨rs_, dr_⟩
 ·
  rw [if_neg c2] at H
  have c2b0 : decide (97 ≤ a0) = false := decide_eq_false c2
  clear c2
  obtain rfl := Option.some.inj H
  go_enter Tryz.func172, Tryz.ntmps172
  go_wp2
  go_ret
  exact ⟨rs_, dr_⟩
def r02_digit.f (a0 : Int) : Option (Bool) := if a0 ≥ 48 then (some (decide (a0 ≤ 57))) else (some false)
theorem r02_digit.calls (a0 : Int) (r : Bool) (w : World) (h : r02_digit.f a0 = some r) :
 Calls Tryz.prog 173 #[.int .u8 a0] w fun e w' => e = .returned (.bool r) ∧ Drawn0 w w' := by
 have H : (if a0 ≥ 48 then (some (decide (a0 ≤ 57))) else (some false)) = some r := h
 clear h
 by_cases c2 : a0 ≥ 48
 ·
  rw [if_pos c2] at H
  have c2b0 : decide (48 ≤ a0) = true := decide_eq_true c2
  clear c2
  obtain rfl := Option.some.inj H
  go_enter Tryz.func173, Tryz.ntmps173
  go_wp2
  go_ret
  exact ⟨rs_, dr_⟩
 ·
  rw [if_neg c2] at H
  have c2b0 : decide (48 ≤ a0) = false := decide_eq_false c2
  clear c2
  obtain rfl := Option.some.inj H
  go_enter Tryz.func173, Tryz.ntmps173
  go_wp2
  go_ret
  exact ⟨rs_, dr_⟩
mutual
def r02_Name.j0 : Nat → ByteArray → Bool → Option (Bool)
 | 0, _, _ => none
 | k + 1, x0, x17 => if x17 = true then (some false) else (r02_Name.l0 k x0 0)
def r02_Name.l0 : Nat → ByteArray → Int → Option (Bool)
 | 0, _, _ => none
 | k + 1, x0, x3 => if x3 < (x0.size : Int) then (if 0 ≤ x3 then ((r02_small.f (bt x0 x3)).bind fun t454 => (if t454 = true then (r02_Name.l0 k x0 (wrap64 (x3 + 1))) else ((r02_digit.f (bt x0 x3)).bind fun t455 => (if t455 = true then (r02_Name.l0 k x0 (wrap64 (x3 + 1))) else (if (bt x0 x3) = 95 then (r02_Name.l0 k x0 (wrap64 (x3 + 1))) else (some false)))))) else (none)) else (some true)
end
def r02_Name.f (k : Nat) (a0 : ByteArray) : Option (Bool) := if (a0.size : Int) < 1 then (r02_Name.j0 k a0 true) else (if (a0.size : Int) > 12 then (r02_Name.j0 k a0 true) else (if 0 < (a0.size : Int) then ((r02_small.f (bt a0 0)).bind fun t453 => (r02_Name.j0 k a0 (!t453))) else (none)))
theorem r02_Name.mono_l : ∀ k, (∀ y0 y1, LeC (r02_Name.j0 k y0 y1) (r02_Name.j0 (k + 1) y0 y1)) ∧ (∀ y0 y1, LeC (r02_Name.l0 k y0 y1) (r02_Name.l0 (k + 1) y0 y1))
 | 0 => ⟨fun _ _ => ⟨fun r h => by simp [r02_Name.j0] at h⟩, fun _ _ => ⟨fun r h => by simp [r02_Name.l0] at h⟩⟩
 | k + 1 => by obtain ⟨ih0, ih1⟩ := r02_Name.mono_l k; exact ⟨fun _ _ => by unfold r02_Name.j0; exact lm, fun _ _ => by unfold r02_Name.l0; exact lm⟩
theorem r02_Name.mono : ∀ a0 k, LeO (r02_Name.f k a0) (r02_Name.f (k + 1) a0) := by
 intro a0 k
 obtain ⟨ih0, ih1⟩ := r02_Name.mono_l k
 unfold r02_Name.f
 exact lo
instance r02_Name.mI {a0 k} : LeC (r02_Name.f k a0) (r02_Name.f (k + 1) a0) := ⟨r02_Name.mono _ _⟩
theorem r02_Name.calls (k : Nat) (a0 : ByteArray) (r : Bool) (w : World) (h : r02_Name.f k a0 = some r) :
 Calls Tryz.prog 147 #[.string a0] w fun e w' => e = .returned (.bool r) ∧ Drawn0 w w' := by
 have H : (if (a0.size : Int) < 1 then (r02_Name.j0 k a0 true) else (if (a0.size : Int) > 12 then (r02_Name.j0 k a0 true) else (if 0 < (a0.size : Int) then ((r02_small.f (bt a0 0)).bind fun t453 => (r02_Name.j0 k a0 (!t453))) else (none)))) = some r := h
 clear h
 have HC2 := Aside0.mk H
 clear H
 go_enter Tryz.func147, Tryz.ntmps147
 go_upto_region 1 with (fail)
 go_cut [17] (fun v17 wc => ∃ (kq : Nat) (x17_1 : Bool), v17 = .bool x17_1 ∧ Aside0 (r02_Name.j0 kq a0 x17_1 = some r) ∧ Aside0 (kq ≤ k) ∧ Drawn0 w wc)
 case first =>
  have H := HC2.out
  clear HC2
  by_cases c3 : (a0.size : Int) < 1
  ·
   rw [if_pos c3] at H
   have c3b0 : decide ((a0.size : Int) < 1) = true := decide_eq_true c3
   have c3b1 : decide (a0.size < 1) = true := decide_eq_true (by omega)
   clear c3
   (first | rw [c3b0] | (simp only [i64_w, i32_w]; rw [c3b0]) | skip)
   have H' := Aside0.mk H
   clear H
   go_wp2
   go_meet
   case rel => exact ⟨_, (true), rs_, H', ⟨by first | omega | exact Nat.le_refl _⟩, dr_⟩
  ·
   rw [if_neg c3] at H
   have c3b0 : decide ((a0.size : Int) < 1) = false := decide_eq_false c3
   have c3b1 : decide (a0.size < 1) = false := decide_eq_false (by omega)
   clear c3
   (first | rw [c3b0] | (simp only [i64_w, i32_w]; rw [c3b0]) | skip)
   by_cases c4 : (a0.size : Int) > 12
   ·
    rw [if_pos c4] at H
    have c4b0 : decide (12 < (a0.size : Int)) = true := decide_eq_true c4
    have c4b1 : decide (12 < a0.size) = true := decide_eq_true (by omega)
    clear c4
    have H' := Aside0.mk H
    clear H
    go_wp2
    go_meet
    case rel => exact ⟨_, (true), rs_, H', ⟨by first | omega | exact Nat.le_refl _⟩, dr_⟩
   ·
    rw [if_neg c4] at H
    have c4b0 : decide (12 < (a0.size : Int)) = false := decide_eq_false c4
    have c4b1 : decide (12 < a0.size) = false := decide_eq_false (by omega)
    clear c4
    obtain ⟨c5, H⟩ := gd H
    have c5b0 : decide (0 < (a0.size : Int)) = true := decide_eq_true c5
    have c5b1 : decide (0 < a0.size) = true := decide_eq_true (by omega)
    clear c5
    obtain ⟨t453, A7, H⟩ := bs H
    try dsimp only at H
    have H' := Aside0.mk H
    clear H
    have p6 : 0 ≤ (0 : Int) := (by omega)
    have q6 : 0 < a0.size := (by have : (0 : Int) < (a0.size : Int) := od; omega)
    have hx6 : ∀ h : 0 < a0.size, ((a0[0]'h).toNat : Int) = bt a0 0 := bt_at a0 0
    clear p6
    have qi6 : (0 < (a0.size : Int)) = True := eq_true (od)
    replace q6 := eq_true q6
    go_wp2_with (first | (go_at_call 172; (with_reducible refine (r02_small.calls (bt a0 0) t453 _ A7.out).mono ?_); rintro e w' ⟨rfl, ⟨nd, rfl⟩⟩))
    go_meet
    case rel => exact ⟨_, (!t453), rs_, H', ⟨by first | omega | exact Nat.le_refl _⟩, dr_⟩
 case rest =>
  clear HC2
  try clear c1
  try clear p2
  try clear c3
  try clear c3b0
  try clear c3b1
  try clear c4
  try clear c4b0
  try clear c4b1
  try clear c5
  try clear c5b0
  try clear c5b1
  try clear p6
  try clear q6
  try clear hx6
  try clear qi6
  try clear p6
  try clear q6
  obtain ⟨kq, x17_1, rfl, HA, HJ1, ⟨mc1, rfl⟩⟩ := hcut
  cases kq with
  | zero => exact absurd HA.out (by simp [r02_Name.j0])
  | succ kj1 =>
   have H := HA.out
   clear HA
   simp only [r02_Name.j0] at H
   by_cases c8 : x17_1 = true
   ·
    subst c8
    rw [if_pos rfl] at H
    obtain rfl := Option.some.inj H
    go_wp2
    go_ret
    exact ⟨rs_, dr_⟩
   ·
    replace c8 := Bool.eq_false_iff.mpr c8
    subst c8
    rw [if_neg (show ¬ (false = true) by decide)] at H
    have H' := Aside0.mk H
    clear H
    go_wp2
    go_loopg [3] kj1 (fun kq v3 w' => ∃ (x3_2 : Int), v3 = .int .i64 x3_2 ∧ Aside0 (r02_Name.l0 kq a0 x3_2 = some r) ∧ Aside0 (kq ≤ kj1) ∧ Drawn0 w w')
    case atStart => exact ⟨(0), rs_, H', ⟨Nat.le_refl _⟩, dr_⟩
    case round =>
     clear H'
     try clear c1
     try clear p2
     try clear c3
     try clear c3b0
     try clear c3b1
     try clear c4
     try clear c4b0
     try clear c4b1
     try clear c5
     try clear c5b0
     try clear c5b1
     try clear p6
     try clear q6
     try clear hx6
     try clear qi6
     try clear c8
     try clear p2
     try clear p6
     try clear q6
     obtain ⟨x3_2, rfl, HA, HK2, ⟨m2, rfl⟩⟩ := hrel
     cases gk with
     | zero => exact absurd HA.out (by simp [r02_Name.l0])
     | succ k2 =>
      have H := HA.out
      clear HA
      simp only [r02_Name.l0] at H
      by_cases c9 : x3_2 < (a0.size : Int)
      ·
       rw [if_pos c9] at H
       have c9b0 : decide (x3_2 < (a0.size : Int)) = true := decide_eq_true c9
       clear c9
       obtain ⟨c10b0, H⟩ := gdd H
       obtain ⟨t454, A12, H⟩ := bs H
       try dsimp only at H
       by_cases c13 : t454 = true
       ·
        subst c13
        rw [if_pos rfl] at H
        have H' := Aside0.mk H
        clear H
        have p11 : 0 ≤ (x3_2 : Int) := od
        have q11 : x3_2 < (a0.size : Int) := od
        have hx11 := bt_at a0 x3_2
        replace p11 := eq_true p11
        replace q11 := eq_true q11
        go_wp2_with (first | (refine gL (some 27) rfl Tryz.func172 #[.int .u8 (bt a0 x3_2)] ?_; (with_reducible refine (r02_small.calls (bt a0 x3_2) true _ A12.out).mono ?_); rintro e w' ⟨rfl, ⟨nd, rfl⟩⟩; refine ⟨_, rfl, ?_⟩))
        go_roundg k2
        case measure => have := HJ1.out; have := HK2.out; omega
        case rel => exact ⟨(wrap64 (x3_2 + 1)), rs_, H', ⟨by have := HJ1.out; have := HK2.out; omega⟩, dr_⟩
       ·
        replace c13 := Bool.eq_false_iff.mpr c13
        subst c13
        rw [if_neg (show ¬ (false = true) by decide)] at H
        obtain ⟨t455, A15, H⟩ := bs H
        try dsimp only at H
        by_cases c16 : t455 = true
        ·
         subst c16
         rw [if_pos rfl] at H
         have H' := Aside0.mk H
         clear H
         have p11 : 0 ≤ (x3_2 : Int) := od
         have q11 : x3_2 < (a0.size : Int) := od
         have hx11 := bt_at a0 x3_2
         replace p11 := eq_true p11
         replace q11 := eq_true q11
         go_wp2_with (first | (refine gL (some 27) rfl Tryz.func172 #[.int .u8 (bt a0 x3_2)] ?_; (with_reducible refine (r02_small.calls (bt a0 x3_2) false _ A12.out).mono ?_); rintro e w' ⟨rfl, ⟨nd, rfl⟩⟩; refine ⟨_, rfl, ?_⟩; have p14 : 0 ≤ (x3_2 : Int) := od; have q14 : x3_2 < (a0.size : Int) := od; have hx14 := bt_at a0 x3_2; replace p14 := eq_true p14; replace q14 := eq_true q14) | (go_at_call 173; (with_reducible refine (r02_digit.calls (bt a0 x3_2) true _ A15.out).mono ?_); rintro e w' ⟨rfl, ⟨nd, rfl⟩⟩))
         go_roundg k2
         case measure => have := HJ1.out; have := HK2.out; omega
         case rel => exact ⟨(wrap64 (x3_2 + 1)), rs_, H', ⟨by have := HJ1.out; have := HK2.out; omega⟩, dr_⟩
        ·
         replace c16 := Bool.eq_false_iff.mpr c16
         subst c16
         rw [if_neg (show ¬ (false = true) by decide)] at H
         by_cases c18 : (bt a0 x3_2) = 95
         ·
          rw [if_pos c18] at H
          have c18b0 : ((bt a0 x3_2) == 95) = true := beq_iff_eq.mpr c18
          have c18b1 : ((bt a0 x3_2) != 95) = false := bne_eq_false_iff_eq.mpr c18
          clear c18
          have H' := Aside0.mk H
          clear H
          have p11 : 0 ≤ (x3_2 : Int) := od
          have q11 : x3_2 < (a0.size : Int) := od
          have hx11 := bt_at a0 x3_2
          replace p11 := eq_true p11
          replace q11 := eq_true q11
          go_wp2_with (first | (refine gL (some 27) rfl Tryz.func172 #[.int .u8 (bt a0 x3_2)] ?_; (with_reducible refine (r02_small.calls (bt a0 x3_2) false _ A12.out).mono ?_); rintro e w' ⟨rfl, ⟨nd, rfl⟩⟩; refine ⟨_, rfl, ?_⟩; have p14 : 0 ≤ (x3_2 : Int) := od; have q14 : x3_2 < (a0.size : Int) := od; have hx14 := bt_at a0 x3_2; replace p14 := eq_true p14; replace q14 := eq_true q14) | (go_at_call 173; (with_reducible refine (r02_digit.calls (bt a0 x3_2) false _ A15.out).mono ?_); rintro e w' ⟨rfl, ⟨nd, rfl⟩⟩; have p17 : 0 ≤ (x3_2 : Int) := od; have q17 : x3_2 < (a0.size : Int) := od; have hx17 := bt_at a0 x3_2; replace p17 := eq_true p17; replace q17 := eq_true q17))
          go_roundg k2
          case measure => have := HJ1.out; have := HK2.out; omega
          case rel => exact ⟨(wrap64 (x3_2 + 1)), rs_, H', ⟨by have := HJ1.out; have := HK2.out; omega⟩, dr_⟩
         ·
          rw [if_neg c18] at H
          have c18b0 : ((bt a0 x3_2) == 95) = false := beq_eq_false_iff_ne.mpr c18
          have c18b1 : ((bt a0 x3_2) != 95) = true := bne_iff_ne.mpr c18
          obtain rfl := Option.some.inj H
          have p11 : 0 ≤ (x3_2 : Int) := od
          have q11 : x3_2 < (a0.size : Int) := od
          have hx11 := bt_at a0 x3_2
          replace p11 := eq_true p11
          replace q11 := eq_true q11
          go_wp2_with (first | (refine gL (some 27) rfl Tryz.func172 #[.int .u8 (bt a0 x3_2)] ?_; (with_reducible refine (r02_small.calls (bt a0 x3_2) false _ A12.out).mono ?_); rintro e w' ⟨rfl, ⟨nd, rfl⟩⟩; refine ⟨_, rfl, ?_⟩; have p14 : 0 ≤ (x3_2 : Int) := od; have q14 : x3_2 < (a0.size : Int) := od; have hx14 := bt_at a0 x3_2; replace p14 := eq_true p14; replace q14 := eq_true q14) | (go_at_call 173; (with_reducible refine (r02_digit.calls (bt a0 x3_2) false _ A15.out).mono ?_); rintro e w' ⟨rfl, ⟨nd, rfl⟩⟩; have p17 : 0 ≤ (x3_2 : Int) := od; have q17 : x3_2 < (a0.size : Int) := od; have hx17 := bt_at a0 x3_2; replace p17 := eq_true p17; replace q17 := eq_true q17))
          go_ret
          exact ⟨rs_, dr_⟩
      ·
       rw [if_neg c9] at H
       have c9b0 : decide (x3_2 < (a0.size : Int)) = false := decide_eq_false c9
       clear c9
       obtain rfl := Option.some.inj H
       go_wp2
       go_ret
       exact ⟨rs_, dr_⟩
mutual
def r02_Value.j0 : Nat → ByteArray → Bool → Option (Bool)
 | 0, _, _ => none
 | k + 1, x0, x11 => if x11 = true then (some false) else (r02_Value.l0 k x0 0)
def r02_Value.l0 : Nat → ByteArray → Int → Option (Bool)
 | 0, _, _ => none
 | k + 1, x0, x3 => if x3 < (x0.size : Int) then (if 0 ≤ x3 then ((r02_small.f (bt x0 x3)).bind fun t456 => (if t456 = true then (r02_Value.l0 k x0 (wrap64 (x3 + 1))) else ((r02_digit.f (bt x0 x3)).bind fun t457 => (if t457 = true then (r02_Value.l0 k x0 (wrap64 (x3 + 1))) else (if (bt x0 x3) = 95 then (r02_Value.l0 k x0 (wrap64 (x3 + 1))) else (if (bt x0 x3) = 45 then (r02_Value.l0 k x0 (wrap64 (x3 + 1))) else (if (bt x0 x3) = 46 then (r02_Value.l0 k x0 (wrap64 (x3 + 1))) else (some false)))))))) else (none)) else (some true)
end
def r02_Value.f (k : Nat) (a0 : ByteArray) : Option (Bool) := if (a0.size : Int) < 1 then (r02_Value.j0 k a0 true) else (r02_Value.j0 k a0 (decide ((a0.size : Int) > 12)))
theorem r02_Value.mono_l : ∀ k, (∀ y0 y1, LeC (r02_Value.j0 k y0 y1) (r02_Value.j0 (k + 1) y0 y1)) ∧ (∀ y0 y1, LeC (r02_Value.l0 k y0 y1) (r02_Value.l0 (k + 1) y0 y1))
 | 0 => ⟨fun _ _ => ⟨fun r h => by simp [r02_Value.j0] at h⟩, fun _ _ => ⟨fun r h => by simp [r02_Value.l0] at h⟩⟩
 | k + 1 => by obtain ⟨ih0, ih1⟩ := r02_Value.mono_l k; exact ⟨fun _ _ => by unfold r02_Value.j0; exact lm, fun _ _ => by unfold r02_Value.l0; exact lm⟩
theorem r02_Value.mono : ∀ a0 k, LeO (r02_Value.f k a0) (r02_Value.f (k + 1) a0) := by
 intro a0 k
 obtain ⟨ih0, ih1⟩ := r02_Value.mono_l k
 unfold r02_Value.f
 exact lo
instance r02_Value.mI {a0 k} : LeC (r02_Value.f k a0) (r02_Value.f (k + 1) a0) := ⟨r02_Value.mono _ _⟩
theorem r02_Value.calls (k : Nat) (a0 : ByteArray) (r : Bool) (w : World) (h : r02_Value.f k a0 = some r) :
 Calls Tryz.prog 148 #[.string a0] w fun e w' => e = .returned (.bool r) ∧ Drawn0 w w' := by
 have H : (if (a0.size : Int) < 1 then (r02_Value.j0 k a0 true) else (r02_Value.j0 k a0 (decide ((a0.size : Int) > 12)))) = some r := h
 clear h
 have HC2 := Aside0.mk H
 clear H
 go_enter Tryz.func148, Tryz.ntmps148
 go_upto_region 1 with (fail)
 go_cut [11] (fun v11 wc => ∃ (kq : Nat) (x11_1 : Bool), v11 = .bool x11_1 ∧ Aside0 (r02_Value.j0 kq a0 x11_1 = some r) ∧ Aside0 (kq ≤ k) ∧ Drawn0 w wc)
 case first =>
  have H := HC2.out
  clear HC2
  by_cases c3 : (a0.size : Int) < 1
  ·
   rw [if_pos c3] at H
   have c3b0 : decide ((a0.size : Int) < 1) = true := decide_eq_true c3
   have c3b1 : decide (a0.size < 1) = true := decide_eq_true (by omega)
   clear c3
   (first | rw [c3b0] | (simp only [i64_w, i32_w]; rw [c3b0]) | skip)
   have H' := Aside0.mk H
   clear H
   go_wp2
   go_meet
   case rel => exact ⟨_, (true), rs_, H', ⟨by first | omega | exact Nat.le_refl _⟩, dr_⟩
  ·
   rw [if_neg c3] at H
   have c3b0 : decide ((a0.size : Int) < 1) = false := decide_eq_false c3
   have c3b1 : decide (a0.size < 1) = false := decide_eq_false (by omega)
   clear c3
   (first | rw [c3b0] | (simp only [i64_w, i32_w]; rw [c3b0]) | skip)
   have H' := Aside0.mk H
   clear H
   go_wp2
   go_meet
   case rel => exact ⟨_, (decide ((a0.size : Int) > 12)), rs_, H', ⟨by first | omega | exact Nat.le_refl _⟩, dr_⟩
 case rest =>
  clear HC2
  try clear c1
  try clear p2
  try clear c3
  try clear c3b0
  try clear c3b1
  obtain ⟨kq, x11_1, rfl, HA, HJ1, ⟨mc1, rfl⟩⟩ := hcut
  cases kq with
  | zero => exact absurd HA.out (by simp [r02_Value.j0])
  | succ kj1 =>
   have H := HA.out
   clear HA
   simp only [r02_Value.j0] at H
   by_cases c4 : x11_1 = true
   ·
    subst c4
    rw [if_pos rfl] at H
    obtain rfl := Option.some.inj H
    go_wp2
    go_ret
    exact ⟨rs_, dr_⟩
   ·
    replace c4 := Bool.eq_false_iff.mpr c4
    subst c4
    rw [if_neg (show ¬ (false = true) by decide)] at H
    have H' := Aside0.mk H
    clear H
    go_wp2
    go_loopg [3] kj1 (fun kq v3 w' => ∃ (x3_2 : Int), v3 = .int .i64 x3_2 ∧ Aside0 (r02_Value.l0 kq a0 x3_2 = some r) ∧ Aside0 (kq ≤ kj1) ∧ Drawn0 w w')
    case atStart => exact ⟨(0), rs_, H', ⟨Nat.le_refl _⟩, dr_⟩
    case round =>
     clear H'
     try clear c1
     try clear p2
     try clear c3
     try clear c3b0
     try clear c3b1
     try clear c4
     try clear p2
     obtain ⟨x3_2, rfl, HA, HK2, ⟨m2, rfl⟩⟩ := hrel
     cases gk with
     | zero => exact absurd HA.out (by simp [r02_Value.l0])
     | succ k2 =>
      have H := HA.out
      clear HA
      simp only [r02_Value.l0] at H
      by_cases c5 : x3_2 < (a0.size : Int)
      ·
       rw [if_pos c5] at H
       have c5b0 : decide (x3_2 < (a0.size : Int)) = true := decide_eq_true c5
       clear c5
       obtain ⟨c6b0, H⟩ := gdd H
       obtain ⟨t456, A8, H⟩ := bs H
       try dsimp only at H
       by_cases c9 : t456 = true
       ·
        subst c9
        rw [if_pos rfl] at H
        have H' := Aside0.mk H
        clear H
        have p7 : 0 ≤ (x3_2 : Int) := od
        have q7 : x3_2 < (a0.size : Int) := od
        have hx7 := bt_at a0 x3_2
        replace p7 := eq_true p7
        replace q7 := eq_true q7
        go_wp2_with (first | (refine gL (some 21) rfl Tryz.func172 #[.int .u8 (bt a0 x3_2)] ?_; (with_reducible refine (r02_small.calls (bt a0 x3_2) true _ A8.out).mono ?_); rintro e w' ⟨rfl, ⟨nd, rfl⟩⟩; refine ⟨_, rfl, ?_⟩))
        go_roundg k2
        case measure => have := HJ1.out; have := HK2.out; omega
        case rel => exact ⟨(wrap64 (x3_2 + 1)), rs_, H', ⟨by have := HJ1.out; have := HK2.out; omega⟩, dr_⟩
       ·
        replace c9 := Bool.eq_false_iff.mpr c9
        subst c9
        rw [if_neg (show ¬ (false = true) by decide)] at H
        obtain ⟨t457, A11, H⟩ := bs H
        try dsimp only at H
        by_cases c12 : t457 = true
        ·
         subst c12
         rw [if_pos rfl] at H
         have H' := Aside0.mk H
         clear H
         have p7 : 0 ≤ (x3_2 : Int) := od
         have q7 : x3_2 < (a0.size : Int) := od
         have hx7 := bt_at a0 x3_2
         replace p7 := eq_true p7
         replace q7 := eq_true q7
         go_wp2_with (first | (refine gL (some 21) rfl Tryz.func172 #[.int .u8 (bt a0 x3_2)] ?_; (with_reducible refine (r02_small.calls (bt a0 x3_2) false _ A8.out).mono ?_); rintro e w' ⟨rfl, ⟨nd, rfl⟩⟩; refine ⟨_, rfl, ?_⟩; have p10 : 0 ≤ (x3_2 : Int) := od; have q10 : x3_2 < (a0.size : Int) := od; have hx10 := bt_at a0 x3_2; replace p10 := eq_true p10; replace q10 := eq_true q10) | (go_at_call 173; (with_reducible refine (r02_digit.calls (bt a0 x3_2) true _ A11.out).mono ?_); rintro e w' ⟨rfl, ⟨nd, rfl⟩⟩))
         go_roundg k2
         case measure => have := HJ1.out; have := HK2.out; omega
         case rel => exact ⟨(wrap64 (x3_2 + 1)), rs_, H', ⟨by have := HJ1.out; have := HK2.out; omega⟩, dr_⟩
        ·
         replace c12 := Bool.eq_false_iff.mpr c12
         subst c12
         rw [if_neg (show ¬ (false = true) by decide)] at H
         by_cases c14 : (bt a0 x3_2) = 95
         ·
          rw [if_pos c14] at H
          have c14b0 : ((bt a0 x3_2) == 95) = true := beq_iff_eq.mpr c14
          have c14b1 : ((bt a0 x3_2) != 95) = false := bne_eq_false_iff_eq.mpr c14
          clear c14
          have H' := Aside0.mk H
          clear H
          have p7 : 0 ≤ (x3_2 : Int) := od
          have q7 : x3_2 < (a0.size : Int) := od
          have hx7 := bt_at a0 x3_2
          replace p7 := eq_true p7
          replace q7 := eq_true q7
          go_wp2_with (first | (refine gL (some 21) rfl Tryz.func172 #[.int .u8 (bt a0 x3_2)] ?_; (with_reducible refine (r02_small.calls (bt a0 x3_2) false _ A8.out).mono ?_); rintro e w' ⟨rfl, ⟨nd, rfl⟩⟩; refine ⟨_, rfl, ?_⟩; have p10 : 0 ≤ (x3_2 : Int) := od; have q10 : x3_2 < (a0.size : Int) := od; have hx10 := bt_at a0 x3_2; replace p10 := eq_true p10; replace q10 := eq_true q10) | (go_at_call 173; (with_reducible refine (r02_digit.calls (bt a0 x3_2) false _ A11.out).mono ?_); rintro e w' ⟨rfl, ⟨nd, rfl⟩⟩; have p13 : 0 ≤ (x3_2 : Int) := od; have q13 : x3_2 < (a0.size : Int) := od; have hx13 := bt_at a0 x3_2; replace p13 := eq_true p13; replace q13 := eq_true q13))
          go_roundg k2
          case measure => have := HJ1.out; have := HK2.out; omega
          case rel => exact ⟨(wrap64 (x3_2 + 1)), rs_, H', ⟨by have := HJ1.out; have := HK2.out; omega⟩, dr_⟩
         ·
          rw [if_neg c14] at H
          have c14b0 : ((bt a0 x3_2) == 95) = false := beq_eq_false_iff_ne.mpr c14
          have c14b1 : ((bt a0 x3_2) != 95) = true := bne_iff_ne.mpr c14
          by_cases c16 : (bt a0 x3_2) = 45
          ·
           rw [if_pos c16] at H
           have c16b0 : ((bt a0 x3_2) == 45) = true := beq_iff_eq.mpr c16
           have c16b1 : ((bt a0 x3_2) != 45) = false := bne_eq_false_iff_eq.mpr c16
           clear c16
           have H' := Aside0.mk H
           clear H
           have p7 : 0 ≤ (x3_2 : Int) := od
           have q7 : x3_2 < (a0.size : Int) := od
           have hx7 := bt_at a0 x3_2
           replace p7 := eq_true p7
           replace q7 := eq_true q7
           go_wp2_with (first | (refine gL (some 21) rfl Tryz.func172 #[.int .u8 (bt a0 x3_2)] ?_; (with_reducible refine (r02_small.calls (bt a0 x3_2) false _ A8.out).mono ?_); rintro e w' ⟨rfl, ⟨nd, rfl⟩⟩; refine ⟨_, rfl, ?_⟩; have p10 : 0 ≤ (x3_2 : Int) := od; have q10 : x3_2 < (a0.size : Int) := od; have hx10 := bt_at a0 x3_2; replace p10 := eq_true p10; replace q10 := eq_true q10) | (go_at_call 173; (with_reducible refine (r02_digit.calls (bt a0 x3_2) false _ A11.out).mono ?_); rintro e w' ⟨rfl, ⟨nd, rfl⟩⟩; have p13 : 0 ≤ (x3_2 : Int) := od; have q13 : x3_2 < (a0.size : Int) := od; have hx13 := bt_at a0 x3_2; replace p13 := eq_true p13; replace q13 := eq_true q13; have p15 : 0 ≤ (x3_2 : Int) := od; have q15 : x3_2 < (a0.size : Int) := od; have hx15 := bt_at a0 x3_2; replace p15 := eq_true p15; replace q15 := eq_true q15))
           go_roundg k2
           case measure => have := HJ1.out; have := HK2.out; omega
           case rel => exact ⟨(wrap64 (x3_2 + 1)), rs_, H', ⟨by have := HJ1.out; have := HK2.out; omega⟩, dr_⟩
          ·
           rw [if_neg c16] at H
           have c16b0 : ((bt a0 x3_2) == 45) = false := beq_eq_false_iff_ne.mpr c16
           have c16b1 : ((bt a0 x3_2) != 45) = true := bne_iff_ne.mpr c16
           by_cases c18 : (bt a0 x3_2) = 46
           ·
            rw [if_pos c18] at H
            have c18b0 : ((bt a0 x3_2) == 46) = true := beq_iff_eq.mpr c18
            have c18b1 : ((bt a0 x3_2) != 46) = false := bne_eq_false_iff_eq.mpr c18
            clear c18
            have H' := Aside0.mk H
            clear H
            have p7 : 0 ≤ (x3_2 : Int) := od
            have q7 : x3_2 < (a0.size : Int) := od
            have hx7 := bt_at a0 x3_2
            replace p7 := eq_true p7
            replace q7 := eq_true q7
            go_wp2_with (first | (refine gL (some 21) rfl Tryz.func172 #[.int .u8 (bt a0 x3_2)] ?_; (with_reducible refine (r02_small.calls (bt a0 x3_2) false _ A8.out).mono ?_); rintro e w' ⟨rfl, ⟨nd, rfl⟩⟩; refine ⟨_, rfl, ?_⟩; have p10 : 0 ≤ (x3_2 : Int) := od; have q10 : x3_2 < (a0.size : Int) := od; have hx10 := bt_at a0 x3_2; replace p10 := eq_true p10; replace q10 := eq_true q10) | (go_at_call 173; (with_reducible refine (r02_digit.calls (bt a0 x3_2) false _ A11.out).mono ?_); rintro e w' ⟨rfl, ⟨nd, rfl⟩⟩; have p13 : 0 ≤ (x3_2 : Int) := od; have q13 : x3_2 < (a0.size : Int) := od; have hx13 := bt_at a0 x3_2; replace p13 := eq_true p13; replace q13 := eq_true q13; have p15 : 0 ≤ (x3_2 : Int) := od; have q15 : x3_2 < (a0.size : Int) := od; have hx15 := bt_at a0 x3_2; replace p15 := eq_true p15; replace q15 := eq_true q15; have p17 : 0 ≤ (x3_2 : Int) := od; have q17 : x3_2 < (a0.size : Int) := od; have hx17 := bt_at a0 x3_2; replace p17 := eq_true p17; replace q17 := eq_true q17))
            go_roundg k2
            case measure => have := HJ1.out; have := HK2.out; omega
            case rel => exact ⟨(wrap64 (x3_2 + 1)), rs_, H', ⟨by have := HJ1.out; have := HK2.out; omega⟩, dr_⟩
           ·
            rw [if_neg c18] at H
            have c18b0 : ((bt a0 x3_2) == 46) = false := beq_eq_false_iff_ne.mpr c18
            have c18b1 : ((bt a0 x3_2) != 46) = true := bne_iff_ne.mpr c18
            obtain rfl := Option.some.inj H
            have p7 : 0 ≤ (x3_2 : Int) := od
            have q7 : x3_2 < (a0.size : Int) := od
            have hx7 := bt_at a0 x3_2
            replace p7 := eq_true p7
            replace q7 := eq_true q7
            go_wp2_with (first | (refine gL (some 21) rfl Tryz.func172 #[.int .u8 (bt a0 x3_2)] ?_; (with_reducible refine (r02_small.calls (bt a0 x3_2) false _ A8.out).mono ?_); rintro e w' ⟨rfl, ⟨nd, rfl⟩⟩; refine ⟨_, rfl, ?_⟩; have p10 : 0 ≤ (x3_2 : Int) := od; have q10 : x3_2 < (a0.size : Int) := od; have hx10 := bt_at a0 x3_2; replace p10 := eq_true p10; replace q10 := eq_true q10) | (go_at_call 173; (with_reducible refine (r02_digit.calls (bt a0 x3_2) false _ A11.out).mono ?_); rintro e w' ⟨rfl, ⟨nd, rfl⟩⟩; have p13 : 0 ≤ (x3_2 : Int) := od; have q13 : x3_2 < (a0.size : Int) := od; have hx13 := bt_at a0 x3_2; replace p13 := eq_true p13; replace q13 := eq_true q13; have p15 : 0 ≤ (x3_2 : Int) := od; have q15 : x3_2 < (a0.size : Int) := od; have hx15 := bt_at a0 x3_2; replace p15 := eq_true p15; replace q15 := eq_true q15; have p17 : 0 ≤ (x3_2 : Int) := od; have q17 : x3_2 < (a0.size : Int) := od; have hx17 := bt_at a0 x3_2; replace p17 := eq_true p17; replace q17 := eq_true q17))
            go_ret
            exact ⟨rs_, dr_⟩
      ·
       rw [if_neg c5] at H
       have c5b0 : decide (x3_2 < (a0.size : Int)) = false := decide_eq_false c5
       clear c5
       obtain rfl := Option.some.inj H
       go_wp2
       go_ret
       exact ⟨rs_, dr_⟩
def r03_may.f (k : Nat) (a0_0 : ByteArray) (a0_1 : ByteArray) : Option (Bool) := (r02_Name.f k a0_0).bind fun t459 => (if t459 = true then ((r02_Value.f k a0_1).bind fun t460 => (some t460)) else (some false))
theorem r03_may.mono : ∀ a0 a1 k, LeO (r03_may.f k a0 a1) (r03_may.f (k + 1) a0 a1) := by
 intro a0 a1 k
 unfold r03_may.f
 exact lo
instance r03_may.mI {a0 a1 k} : LeC (r03_may.f k a0 a1) (r03_may.f (k + 1) a0 a1) := ⟨r03_may.mono _ _ _⟩
theorem r03_may.calls (k : Nat) (a0_0 : ByteArray) (a0_1 : ByteArray) (r : Bool) (w : World) (h : r03_may.f k a0_0 a0_1 = some r) :
 Calls Tryz.prog 116 #[.agg #[.string a0_0, .string a0_1]] w fun e w' => e = .returned (.bool r) ∧ Below w.heap.size w w' := by
 have hu113 := Tryz.underlying113
 have HB := Aside0.mk (Below.refl w.heap.size w)
 have H : ((r02_Name.f k a0_0).bind fun t459 => (if t459 = true then ((r02_Value.f k a0_1).bind fun t460 => (some t460)) else (some false))) = some r := h
 clear h
 obtain ⟨t459, A2, H⟩ := bs H
 try dsimp only at H
 by_cases c3 : t459 = true
 ·
  subst c3
  rw [if_pos rfl] at H
  obtain ⟨t460, A4, H⟩ := bs H
  try dsimp only at H
  obtain rfl := Option.some.inj H
  go_enter Tryz.func116, Tryz.ntmps116
  go_wp2_with (first | ((with_reducible refine gate_dst (N := 1) rfl ?_); refine bx (N := 1) #[.string a0_0, .string a0_1] 113 ?_; intro gb458 hg w5 hbox hb; have BK458 := Aside0.mk (hbox); have GW458 := gw hg (uW HB.out); have GE458 := GW458; replace HB := cW HB hb; clear hb hbox hg; obtain ⟨hcz6_0, hcz6_1, hfz6_0, hfz6_1⟩ := z2 BK458) | (refine gL (some 5) rfl Tryz.func147 #[.string a0_0] ?_; (with_reducible refine (r02_Name.calls k a0_0 true _ A2.out).mono ?_); rintro e w' ⟨rfl, ⟨nd, rfl⟩⟩; refine ⟨_, rfl, ?_⟩) | (go_at_call 148; (with_reducible refine (r02_Value.calls k a0_1 t460 _ A4.out).mono ?_); rintro e w' ⟨rfl, ⟨nd, rfl⟩⟩))
  go_ret
  exact ⟨re_, bl⟩
 ·
  replace c3 := Bool.eq_false_iff.mpr c3
  subst c3
  rw [if_neg (show ¬ (false = true) by decide)] at H
  obtain rfl := Option.some.inj H
  go_enter Tryz.func116, Tryz.ntmps116
  go_wp2_with (first | ((with_reducible refine gate_dst (N := 1) rfl ?_); refine bx (N := 1) #[.string a0_0, .string a0_1] 113 ?_; intro gb458 hg w7 hbox hb; have BK458 := Aside0.mk (hbox); have GW458 := gw hg (uW HB.out); have GE458 := GW458; replace HB := cW HB hb; clear hb hbox hg; obtain ⟨hcz8_0, hcz8_1, hfz8_0, hfz8_1⟩ := z2 BK458) | (refine gL (some 5) rfl Tryz.func147 #[.string a0_0] ?_; (with_reducible refine (r02_Name.calls k a0_0 false _ A2.out).mono ?_); rintro e w' ⟨rfl, ⟨nd, rfl⟩⟩; refine ⟨_, rfl, ?_⟩))
  go_ret
  exact ⟨re_, bl⟩
end Go.Proofs.YteckidchnicjeaaGreatDoor.X
