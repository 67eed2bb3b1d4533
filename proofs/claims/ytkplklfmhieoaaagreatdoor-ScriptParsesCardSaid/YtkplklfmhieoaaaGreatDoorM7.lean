/- Printed by a program of this session's own: what functions of the program compute, and that the machine computes it. No condition of its own. -/
import Derived.Test.YtkplklfmhieoaaaGreatDoorM3
import Derived.Test.YtkplklfmhieoaaaGreatDoorM6
namespace Go.Proofs.YtkplklfmhieoaaaGreatDoor.X
open Go.RowKit Go.Proofs.YtkplklfmhieoaaaGreatDoorW.PrintWords Go.Proofs.YtkplklfmhieoaaaGreatDoorW.PrintLast Go.Proofs.YtkplklfmhieoaaaGreatDoorW.PrintMore
attribute [local go_sem] max2_int min2_int max_two min_two max_three min_three max_four min_four
set_option linter.unusedVariables false
set_option linter.unusedSimpArgs false
set_option maxHeartbeats 8000000
set_option maxRecDepth 100000
theorem r01_Read.wtd {a : Int} (h0 : -9223372036854775808 ≤ a) (h1 : a ≤ 9223372036854775807) : wrap64 (Int.tdiv a 10) = Int.tdiv a 10 := by
 have e : Int.tdiv a 10 = if 0 ≤ a then a / 10 else -((-a) / 10) := by
  split
  ·
   rename_i h; exact Int.tdiv_eq_ediv_of_nonneg h
  ·
   rename_i h
   have h2 : Int.tdiv a 10 = -(Int.tdiv (-a) 10) := by rw [Int.neg_tdiv, Int.neg_neg]
   rw [h2, Int.tdiv_eq_ediv_of_nonneg (by omega)]
 rw [e]
 unfold wrap64
 split <;> omega
mutual
def r01_Read.j0 : Nat → ByteArray → ByteArray → Bool → Option (Int × Int)
 | 0, _, _, _ => none
 | k + 1, x0, x4, x17 => if x17 = true then (if 1 ≤ (x4.size : Int) then (r01_Read.j1 k x0 (x4.extract 1 x4.size)) else (none)) else (r01_Read.j1 k x0 x4)
def r01_Read.j1 : Nat → ByteArray → ByteArray → Option (Int × Int)
 | 0, _, _ => none
 | k + 1, x0, x4 => if (x4.size : Int) = 0 then (r01_Read.j2 k x0 x4 true) else (if 0 < (x4.size : Int) then (if (bt x4 0) = 48 then (r01_Read.j2 k x0 x4 (decide ((x0.size : Int) > 1))) else (r01_Read.j2 k x0 x4 false)) else (none))
def r01_Read.j2 : Nat → ByteArray → ByteArray → Bool → Option (Int × Int)
 | 0, _, _, _ => none
 | k + 1, x0, x4, x32 => if x32 = true then (some (0, 2)) else (r01_Read.l0 k x0 x4 0)
def r01_Read.l0 : Nat → ByteArray → ByteArray → Int → Option (Int × Int)
 | 0, _, _, _ => none
 | k + 1, x0, x4, x5 => if x5 < (x4.size : Int) then (if 0 ≤ x5 then (if (bt x4 x5) < 48 then (some (0, 2)) else (if (bt x4 x5) > 57 then (some (0, 2)) else (r01_Read.l0 k x0 x4 (wrap64 (x5 + 1))))) else (none)) else (r01_Read.l1 k x0 x4 0 0)
def r01_Read.l1 : Nat → ByteArray → ByteArray → Int → Int → Option (Int × Int)
 | 0, _, _, _, _ => none
 | k + 1, x0, x4, x6, x7 => if x7 < (x4.size : Int) then (if 0 ≤ x7 then (if x6 < (wrap64 (Int.tdiv ((-9223372036854775808) + (((bt x4 x7) - 48) % 256)) 10)) then (some (0, 3)) else (r01_Read.l1 k x0 x4 (wrap64 ((wrap64 (10 * x6)) - (((bt x4 x7) - 48) % 256))) (wrap64 (x7 + 1)))) else (none)) else (if (x4.size : Int) < (x0.size : Int) then (some (x6, 0)) else (if x6 = (-9223372036854775808) then (some (0, 3)) else (some (wrap64 (-x6), 0))))
end
def r01_Read.f (k : Nat) (a0 : ByteArray) : Option (Int × Int) := if (a0.size : Int) > 1 then (if 0 < (a0.size : Int) then (r01_Read.j0 k a0 a0 ((bt a0 0) == 45)) else (none)) else (r01_Read.j0 k a0 a0 false)
theorem r01_Read.mono_l : ∀ k, (∀ y0 y1 y2, LeC (r01_Read.j0 k y0 y1 y2) (r01_Read.j0 (k + 1) y0 y1 y2)) ∧ (∀ y0 y1, LeC (r01_Read.j1 k y0 y1) (r01_Read.j1 (k + 1) y0 y1)) ∧ (∀ y0 y1 y2, LeC (r01_Read.j2 k y0 y1 y2) (r01_Read.j2 (k + 1) y0 y1 y2)) ∧ (∀ y0 y1 y2, LeC (r01_Read.l0 k y0 y1 y2) (r01_Read.l0 (k + 1) y0 y1 y2)) ∧ (∀ y0 y1 y2 y3, LeC (r01_Read.l1 k y0 y1 y2 y3) (r01_Read.l1 (k + 1) y0 y1 y2 y3))
 | 0 => ⟨fun _ _ _ => ⟨fun r h => by simp [r01_Read.j0] at h⟩, fun _ _ => ⟨fun r h => by simp [r01_Read.j1] at h⟩, fun _ _ _ => ⟨fun r h => by simp [r01_Read.j2] at h⟩, fun _ _ _ => ⟨fun r h => by simp [r01_Read.l0] at h⟩, fun _ _ _ _ => ⟨fun r h => by simp [r01_Read.l1] at h⟩⟩
 | k + 1 => by obtain ⟨ih0, ih1, ih2, ih3, ih4⟩ := r01_Read.mono_l k; exact ⟨fun _ _ _ => by unfold r01_Read.j0; exact lm, fun _ _ => by unfold r01_Read.j1; exact lm, fun _ _ _ => by unfold r01_Read.j2; exact lm, fun _ _ _ => by unfold r01_Read.l0; exact lm, fun _ _ _ _ => by unfold r01_Read.l1; exact lm⟩
theorem r01_Read.mono : ∀ a0 k, LeO (r01_Read.f k a0) (r01_Read.f (k + 1) a0) := by
 intro a0 k
 obtain ⟨ih0, ih1, ih2, ih3, ih4⟩ := r01_Read.mono_l k
 unfold r01_Read.f
 exact lo
instance r01_Read.mI {a0 k} : LeC (r01_Read.f k a0) (r01_Read.f (k + 1) a0) := ⟨r01_Read.mono _ _⟩
theorem r01_Read.calls (k : Nat) (a0 : ByteArray) (r1 : Int) (r2 : Int) (w : World) (h : r01_Read.f k a0 = some (r1, r2)) :
 Calls Tryz.prog 50 #[.string a0] w fun e w' => e = .returned (.tuple #[.int .i64 r1, .int .i64 r2]) ∧ Drawn0 w w' := by
 have H : (if (a0.size : Int) > 1 then (if 0 < (a0.size : Int) then (r01_Read.j0 k a0 a0 ((bt a0 0) == 45)) else (none)) else (r01_Read.j0 k a0 a0 false)) = some (r1, r2) := h
 clear h
 have HC2 := Aside0.mk H
 clear H
 go_enter Tryz.func50, Tryz.ntmps50
 go_upto_region 2 with (fail)
 go_cut [17] (fun v17 wc => ∃ (kq : Nat) (x17_1 : Bool), v17 = .bool x17_1 ∧ Aside0 (r01_Read.j0 kq a0 a0 x17_1 = some (r1, r2)) ∧ Aside0 (kq ≤ k) ∧ Drawn0 w wc)
 case first =>
  have H := HC2.out
  clear HC2
  by_cases c3 : (a0.size : Int) > 1
  ·
   rw [if_pos c3] at H
   have c3b0 : decide (1 < (a0.size : Int)) = true := decide_eq_true c3
   have c3b1 : decide (1 < a0.size) = true := decide_eq_true (by omega)
   clear c3
   (first | rw [c3b0] | (simp only [i64_w, i32_w]; rw [c3b0]) | skip)
   obtain ⟨c4, H⟩ := gd H
   have c4b0 : decide (0 < (a0.size : Int)) = true := decide_eq_true c4
   have c4b1 : decide (0 < a0.size) = true := decide_eq_true (by omega)
   clear c4
   have H' := Aside0.mk H
   clear H
   have p5 : 0 ≤ (0 : Int) := (by omega)
   have q5 : 0 < a0.size := (by have : (0 : Int) < (a0.size : Int) := od; omega)
   have hx5 : ∀ h : 0 < a0.size, ((a0[0]'h).toNat : Int) = bt a0 0 := bt_at a0 0
   clear p5
   have qi5 : (0 < (a0.size : Int)) = True := eq_true (od)
   replace q5 := eq_true q5
   go_wp2
   go_meet
   case rel => exact ⟨_, (((bt a0 0) == 45)), rs_, H', ⟨by first | omega | exact Nat.le_refl _⟩, dr_⟩
  ·
   rw [if_neg c3] at H
   have c3b0 : decide (1 < (a0.size : Int)) = false := decide_eq_false c3
   have c3b1 : decide (1 < a0.size) = false := decide_eq_false (by omega)
   clear c3
   (first | rw [c3b0] | (simp only [i64_w, i32_w]; rw [c3b0]) | skip)
   have H' := Aside0.mk H
   clear H
   go_wp2
   go_meet
   case rel => exact ⟨_, (false), rs_, H', ⟨by first | omega | exact Nat.le_refl _⟩, dr_⟩
 case rest =>
  clear HC2
  try clear p2
  try clear c3
  try clear c3b0
  try clear c3b1
  try clear c4
  try clear c4b0
  try clear c4b1
  try clear c5
  try clear p5
  try clear q5
  try clear hx5
  try clear qi5
  try clear p5
  try clear q5
  obtain ⟨kq, x17_1, rfl, HA, HJ1, ⟨mc1, rfl⟩⟩ := hcut
  cases kq with
  | zero => exact absurd HA.out (by simp [r01_Read.j0])
  | succ kj1 =>
   have H := HA.out
   clear HA
   simp only [r01_Read.j0] at H
   have HC6 := Aside0.mk H
   clear H
   go_upto_if 17 with (fail)
   go_cut [4] (fun v4 wc => ∃ (kq : Nat) (x4_5 : ByteArray), v4 = .string x4_5 ∧ Aside0 (r01_Read.j1 kq a0 x4_5 = some (r1, r2)) ∧ Aside0 (kq ≤ kj1) ∧ Drawn0 w wc)
   case first =>
    have H := HC6.out
    clear HC6
    by_cases c7 : x17_1 = true
    ·
     subst c7
     rw [if_pos rfl] at H
     obtain ⟨c8, H⟩ := gd H
     have c8b0 := eq_true c8
     have c8b1 : decide (1 ≤ (a0.size : Int)) = true := decide_eq_true c8
     clear c8
     have H' := Aside0.mk H
     clear H
     go_wp2
     go_meet
     case rel => exact ⟨_, (a0.extract 1 a0.size), rs_, H', ⟨by have := HJ1.out; first | omega | exact Nat.le_refl _⟩, dr_⟩
    ·
     replace c7 := Bool.eq_false_iff.mpr c7
     subst c7
     rw [if_neg (show ¬ (false = true) by decide)] at H
     have H' := Aside0.mk H
     clear H
     go_wp2
     go_meet
     case rel => exact ⟨_, (a0), rs_, H', ⟨by have := HJ1.out; first | omega | exact Nat.le_refl _⟩, dr_⟩
   case rest =>
    clear HC6
    try clear c1
    try clear p2
    try clear c3
    try clear c3b0
    try clear c3b1
    try clear c4
    try clear c4b0
    try clear c4b1
    try clear c5
    try clear p5
    try clear q5
    try clear hx5
    try clear qi5
    try clear c7
    try clear c8
    try clear c8b0
    try clear c8b1
    try clear p2
    try clear p5
    try clear q5
    obtain ⟨kq, x4_5, rfl, HA, HJ5, ⟨mc5, rfl⟩⟩ := hcut
    cases kq with
    | zero => exact absurd HA.out (by simp [r01_Read.j1])
    | succ kj5 =>
     have H := HA.out
     clear HA
     simp only [r01_Read.j1] at H
     have HC9 := Aside0.mk H
     clear H
     go_upto_region 4 with (fail)
     go_cut [32] (fun v32 wc => ∃ (kq : Nat) (x32_8 : Bool), v32 = .bool x32_8 ∧ Aside0 (r01_Read.j2 kq a0 x4_5 x32_8 = some (r1, r2)) ∧ Aside0 (kq ≤ kj5) ∧ Drawn0 w wc)
     case first =>
      have H := HC9.out
      clear HC9
      by_cases c10 : (x4_5.size : Int) = 0
      ·
       rw [if_pos c10] at H
       have c10b0 : ((x4_5.size : Int) == 0) = true := beq_iff_eq.mpr c10
       have c10b1 : ((x4_5.size : Int) != 0) = false := bne_eq_false_iff_eq.mpr c10
       clear c10
       (first | rw [c10b0] | (simp only [i64_w, i32_w]; rw [c10b0]) | skip)
       have H' := Aside0.mk H
       clear H
       go_wp2
       go_meet
       case rel => exact ⟨_, (true), rs_, H', ⟨by have := HJ1.out; have := HJ5.out; first | omega | exact Nat.le_refl _⟩, dr_⟩
      ·
       rw [if_neg c10] at H
       have c10b0 : ((x4_5.size : Int) == 0) = false := beq_eq_false_iff_ne.mpr c10
       have c10b1 : ((x4_5.size : Int) != 0) = true := bne_iff_ne.mpr c10
       (first | rw [c10b0] | (simp only [i64_w, i32_w]; rw [c10b0]) | skip)
       obtain ⟨c11, H⟩ := gd H
       have c11b0 : decide (0 < (x4_5.size : Int)) = true := decide_eq_true c11
       have c11b1 : decide (0 < x4_5.size) = true := decide_eq_true (by omega)
       clear c11
       by_cases c13 : (bt x4_5 0) = 48
       ·
        rw [if_pos c13] at H
        have c13b0 : ((bt x4_5 0) == 48) = true := beq_iff_eq.mpr c13
        have c13b1 : ((bt x4_5 0) != 48) = false := bne_eq_false_iff_eq.mpr c13
        clear c13
        have H' := Aside0.mk H
        clear H
        have p12 : 0 ≤ (0 : Int) := (by omega)
        have q12 : 0 < x4_5.size := (by have : (0 : Int) < (x4_5.size : Int) := od; omega)
        have hx12 : ∀ h : 0 < x4_5.size, ((x4_5[0]'h).toNat : Int) = bt x4_5 0 := bt_at x4_5 0
        clear p12
        have qi12 : (0 < (x4_5.size : Int)) = True := eq_true (od)
        replace q12 := eq_true q12
        go_wp2
        go_meet
        case rel => exact ⟨_, (decide ((a0.size : Int) > 1)), rs_, H', ⟨by have := HJ1.out; have := HJ5.out; first | omega | exact Nat.le_refl _⟩, dr_⟩
       ·
        rw [if_neg c13] at H
        have c13b0 : ((bt x4_5 0) == 48) = false := beq_eq_false_iff_ne.mpr c13
        have c13b1 : ((bt x4_5 0) != 48) = true := bne_iff_ne.mpr c13
        have H' := Aside0.mk H
        clear H
        have p12 : 0 ≤ (0 : Int) := (by omega)
        have q12 : 0 < x4_5.size := (by have : (0 : Int) < (x4_5.size : Int) := od; omega)
        have hx12 : ∀ h : 0 < x4_5.size, ((x4_5[0]'h).toNat : Int) = bt x4_5 0 := bt_at x4_5 0
        clear p12
        have qi12 : (0 < (x4_5.size : Int)) = True := eq_true (od)
        replace q12 := eq_true q12
        go_wp2
        go_meet
        case rel => exact ⟨_, (false), rs_, H', ⟨by have := HJ1.out; have := HJ5.out; first | omega | exact Nat.le_refl _⟩, dr_⟩
     case rest =>
      clear HC9
      try clear c1
      try clear p1
      try clear q1
      try clear hx1
      try clear qi1
      try clear p2
      try clear c3
      try clear c3b0
      try clear c3b1
      try clear c4
      try clear c4b0
      try clear c4b1
      try clear c5
      try clear p5
      try clear q5
      try clear hx5
      try clear qi5
      try clear c7
      try clear c8
      try clear c8b0
      try clear c8b1
      try clear c10
      try clear c10b0
      try clear c10b1
      try clear c11
      try clear c11b0
      try clear c11b1
      try clear p12
      try clear q12
      try clear hx12
      try clear qi12
      try clear c13
      try clear c13b0
      try clear c13b1
      try clear p12
      try clear p2
      try clear p5
      try clear q12
      try clear q5
      obtain ⟨kq, x32_8, rfl, HA, HJ8, ⟨mc8, rfl⟩⟩ := hcut
      cases kq with
      | zero => exact absurd HA.out (by simp [r01_Read.j2])
      | succ kj8 =>
       have H := HA.out
       clear HA
       simp only [r01_Read.j2] at H
       by_cases c14 : x32_8 = true
       ·
        subst c14
        rw [if_pos rfl] at H
        simp only [Option.some.injEq, Prod.mk.injEq] at H
        obtain ⟨rfl, rfl⟩ := H
        go_wp2
        go_ret2
        exact ⟨rs_, dr_⟩
       ·
        replace c14 := Bool.eq_false_iff.mpr c14
        subst c14
        rw [if_neg (show ¬ (false = true) by decide)] at H
        have H' := Aside0.mk H
        clear H
        go_wp2
        go_loopg [5] kj8 (fun kq v5 w' => ∃ (x5_4 : Int), v5 = .int .i64 x5_4 ∧ Aside0 (r01_Read.l0 kq a0 x4_5 x5_4 = some (r1, r2)) ∧ Aside0 (kq ≤ kj8) ∧ Drawn0 w w')
        case atStart => exact ⟨(0), rs_, H', ⟨Nat.le_refl _⟩, dr_⟩
        case round =>
         clear H'
         try clear c1
         try clear p1
         try clear q1
         try clear hx1
         try clear qi1
         try clear p2
         try clear c3
         try clear c3b0
         try clear c3b1
         try clear c4
         try clear c4b0
         try clear c4b1
         try clear c5
         try clear p5
         try clear q5
         try clear hx5
         try clear qi5
         try clear c7
         try clear c8
         try clear c8b0
         try clear c8b1
         try clear c10
         try clear c10b0
         try clear c10b1
         try clear c11
         try clear c11b0
         try clear c11b1
         try clear p12
         try clear q12
         try clear hx12
         try clear qi12
         try clear c13
         try clear c13b0
         try clear c13b1
         try clear c14
         try clear p1
         try clear p12
         try clear p2
         try clear p5
         try clear q1
         try clear q12
         try clear q5
         obtain ⟨x5_4, rfl, HA, HK4, ⟨m4, rfl⟩⟩ := hrel
         cases gk with
         | zero => exact absurd HA.out (by simp [r01_Read.l0])
         | succ k4 =>
          have H := HA.out
          clear HA
          simp only [r01_Read.l0] at H
          by_cases c15 : x5_4 < (x4_5.size : Int)
          ·
           rw [if_pos c15] at H
           have c15b0 : decide (x5_4 < (x4_5.size : Int)) = true := decide_eq_true c15
           clear c15
           obtain ⟨c16b0, H⟩ := gdd H
           by_cases c18 : (bt x4_5 x5_4) < 48
           ·
            rw [if_pos c18] at H
            have c18b0 : decide ((bt x4_5 x5_4) < 48) = true := decide_eq_true c18
            clear c18
            simp only [Option.some.injEq, Prod.mk.injEq] at H
            obtain ⟨rfl, rfl⟩ := H
            have p17 : 0 ≤ (x5_4 : Int) := od
            have q17 : x5_4 < (x4_5.size : Int) := od
            have hx17 := bt_at x4_5 x5_4
            replace p17 := eq_true p17
            replace q17 := eq_true q17
            go_wp2
            go_ret2
            exact ⟨rs_, dr_⟩
           ·
            rw [if_neg c18] at H
            have c18b0 : decide ((bt x4_5 x5_4) < 48) = false := decide_eq_false c18
            clear c18
            by_cases c20 : (bt x4_5 x5_4) > 57
            ·
             rw [if_pos c20] at H
             have c20b0 : decide (57 < (bt x4_5 x5_4)) = true := decide_eq_true c20
             clear c20
             simp only [Option.some.injEq, Prod.mk.injEq] at H
             obtain ⟨rfl, rfl⟩ := H
             have p17 : 0 ≤ (x5_4 : Int) := od
             have q17 : x5_4 < (x4_5.size : Int) := od
             have hx17 := bt_at x4_5 x5_4
             replace p17 := eq_true p17
             replace q17 := eq_true q17
             have p19 : 0 ≤ (x5_4 : Int) := od
             have q19 : x5_4 < (x4_5.size : Int) := od
             have hx19 := bt_at x4_5 x5_4
             replace p19 := eq_true p19
             replace q19 := eq_true q19
             go_wp2
             go_ret2
             exact ⟨rs_, dr_⟩
            ·
             rw [if_neg c20] at H
             have c20b0 : decide (57 < (bt x4_5 x5_4)) = false := decide_eq_false c20
             clear c20
             have H' := Aside0.mk H
             clear H
             have p17 : 0 ≤ (x5_4 : Int) := od
             have q17 : x5_4 < (x4_5.size : Int) := od
             have hx17 := bt_at x4_5 x5_4
             replace p17 := eq_true p17
             replace q17 := eq_true q17
             have p19 : 0 ≤ (x5_4 : Int) := od
             have q19 : x5_4 < (x4_5.size : Int) := od
             have hx19 := bt_at x4_5 x5_4
             replace p19 := eq_true p19
             replace q19 := eq_true q19
             go_wp2
             go_roundg k4
             case measure => have := HJ1.out; have := HJ5.out; have := HJ8.out; have := HK4.out; omega
             case rel => exact ⟨(wrap64 (x5_4 + 1)), rs_, H', ⟨by have := HJ1.out; have := HJ5.out; have := HJ8.out; have := HK4.out; omega⟩, dr_⟩
          ·
           rw [if_neg c15] at H
           have c15b0 : decide (x5_4 < (x4_5.size : Int)) = false := decide_eq_false c15
           clear c15
           have H' := Aside0.mk H
           clear H
           go_wp2
           go_loopg [6, 7] k4 (fun kq v6 v7 w' => ∃ (x6_5 : Int) (x7_5 : Int), v6 = .int .i64 x6_5 ∧ v7 = .int .i64 x7_5 ∧ Aside0 (r01_Read.l1 kq a0 x4_5 x6_5 x7_5 = some (r1, r2)) ∧ Aside0 (kq ≤ k4) ∧ Drawn0 w w')
           case atStart => exact ⟨(0), (0), rs_, rs_, H', ⟨Nat.le_refl _⟩, dr_⟩
           case round =>
            clear H'
            try clear c1
            try clear p1
            try clear q1
            try clear hx1
            try clear qi1
            try clear c2
            try clear p2
            try clear c3
            try clear c3b0
            try clear c3b1
            try clear c4
            try clear c4b0
            try clear c4b1
            try clear c5
            try clear p5
            try clear q5
            try clear hx5
            try clear qi5
            try clear p6
            try clear c7
            try clear c8
            try clear c8b0
            try clear c8b1
            try clear c10
            try clear c10b0
            try clear c10b1
            try clear c11
            try clear c11b0
            try clear c11b1
            try clear p12
            try clear q12
            try clear hx12
            try clear qi12
            try clear c13
            try clear c13b0
            try clear c13b1
            try clear c14
            try clear c15
            try clear c15b0
            try clear c16
            try clear c16b0
            try clear p17
            try clear q17
            try clear hx17
            try clear c18
            try clear c18b0
            try clear p19
            try clear q19
            try clear hx19
            try clear c20
            try clear c20b0
            try clear p1
            try clear p12
            try clear p17
            try clear p19
            try clear p2
            try clear p5
            try clear q1
            try clear q12
            try clear q17
            try clear q19
            try clear q5
            obtain ⟨x6_5, x7_5, rfl, rfl, HA, HK5, ⟨m5, rfl⟩⟩ := hrel
            cases gk with
            | zero => exact absurd HA.out (by simp [r01_Read.l1])
            | succ k5 =>
             have H := HA.out
             clear HA
             simp only [r01_Read.l1] at H
             by_cases c21 : x7_5 < (x4_5.size : Int)
             ·
              rw [if_pos c21] at H
              have c21b0 : decide (x7_5 < (x4_5.size : Int)) = true := decide_eq_true c21
              clear c21
              obtain ⟨c22b0, H⟩ := gdd H
              by_cases c24 : x6_5 < (wrap64 (Int.tdiv ((-9223372036854775808) + (((bt x4_5 x7_5) - 48) % 256)) 10))
              ·
               rw [if_pos c24] at H
               have c24b0 : decide (x6_5 < (wrap64 (Int.tdiv ((-9223372036854775808) + (((bt x4_5 x7_5) - 48) % 256)) 10))) = true := decide_eq_true c24
               have c24b7 : decide (x6_5 < Int.tdiv ((-9223372036854775808) + (((bt x4_5 x7_5) - 48) % 256)) 10) = true := by rw [← r01_Read.wtd (a := ((-9223372036854775808) + (((bt x4_5 x7_5) - 48) % 256))) (by omega) (by omega)]; exact c24b0
               clear c24
               simp only [Option.some.injEq, Prod.mk.injEq] at H
               obtain ⟨rfl, rfl⟩ := H
               have p23 : 0 ≤ (x7_5 : Int) := od
               have q23 : x7_5 < (x4_5.size : Int) := od
               have hx23 := bt_at x4_5 x7_5
               replace p23 := eq_true p23
               replace q23 := eq_true q23
               go_wp2
               go_ret2
               exact ⟨rs_, dr_⟩
              ·
               rw [if_neg c24] at H
               have c24b0 : decide (x6_5 < (wrap64 (Int.tdiv ((-9223372036854775808) + (((bt x4_5 x7_5) - 48) % 256)) 10))) = false := decide_eq_false c24
               have c24b7 : decide (x6_5 < Int.tdiv ((-9223372036854775808) + (((bt x4_5 x7_5) - 48) % 256)) 10) = false := by rw [← r01_Read.wtd (a := ((-9223372036854775808) + (((bt x4_5 x7_5) - 48) % 256))) (by omega) (by omega)]; exact c24b0
               clear c24
               have H' := Aside0.mk H
               clear H
               have p23 : 0 ≤ (x7_5 : Int) := od
               have q23 : x7_5 < (x4_5.size : Int) := od
               have hx23 := bt_at x4_5 x7_5
               replace p23 := eq_true p23
               replace q23 := eq_true q23
               go_wp2
               go_roundg k5
               case measure => have := HJ1.out; have := HJ5.out; have := HJ8.out; have := HK4.out; have := HK5.out; omega
               case rel => exact ⟨(wrap64 ((wrap64 (10 * x6_5)) - (((bt x4_5 x7_5) - 48) % 256))), (wrap64 (x7_5 + 1)), rs_, rs_, H', ⟨by have := HJ1.out; have := HJ5.out; have := HJ8.out; have := HK4.out; have := HK5.out; omega⟩, dr_⟩
             ·
              rw [if_neg c21] at H
              have c21b0 : decide (x7_5 < (x4_5.size : Int)) = false := decide_eq_false c21
              clear c21
              by_cases c25 : (x4_5.size : Int) < (a0.size : Int)
              ·
               rw [if_pos c25] at H
               have c25b0 : decide ((x4_5.size : Int) < (a0.size : Int)) = true := decide_eq_true c25
               have c25b1 : decide (x4_5.size < a0.size) = true := decide_eq_true (Int.ofNat_lt.mp c25)
               clear c25
               simp only [Option.some.injEq, Prod.mk.injEq] at H
               obtain ⟨rfl, rfl⟩ := H
               go_wp2
               go_ret2
               exact ⟨rs_, dr_⟩
              ·
               rw [if_neg c25] at H
               have c25b0 : decide ((x4_5.size : Int) < (a0.size : Int)) = false := decide_eq_false c25
               have c25b1 : decide (x4_5.size < a0.size) = false := decide_eq_false (fun h => c25 (Int.ofNat_lt.mpr h))
               clear c25
               by_cases c26 : x6_5 = (-9223372036854775808)
               ·
                rw [if_pos c26] at H
                have c26b0 : (x6_5 == (-9223372036854775808)) = true := beq_iff_eq.mpr c26
                have c26b1 : (x6_5 != (-9223372036854775808)) = false := bne_eq_false_iff_eq.mpr c26
                clear c26
                simp only [Option.some.injEq, Prod.mk.injEq] at H
                obtain ⟨rfl, rfl⟩ := H
                go_wp2
                go_ret2
                exact ⟨rs_, dr_⟩
               ·
                rw [if_neg c26] at H
                have c26b0 : (x6_5 == (-9223372036854775808)) = false := beq_eq_false_iff_ne.mpr c26
                have c26b1 : (x6_5 != (-9223372036854775808)) = true := bne_iff_ne.mpr c26
                simp only [Option.some.injEq, Prod.mk.injEq] at H
                obtain ⟨rfl, rfl⟩ := H
                go_wp2
                go_ret2
                exact ⟨rs_, dr_⟩
def r26_value.l0 : Nat → Int → Int → Option (Int)
 | 0, _, _ => none
 | k + 1, x0, x3 => if x3 < 16 then (if 0 ≤ x3 then (if (bt (⟨#[48, 49, 50, 51, 52, 53, 54, 55, 56, 57, 97, 98, 99, 100, 101, 102]⟩ : ByteArray) x3) = x0 then (some x3) else (r26_value.l0 k x0 (wrap64 (x3 + 1)))) else (none)) else (some (-1))
def r26_value.f (k : Nat) (a0 : Int) : Option (Int) := r26_value.l0 k a0 0
theorem r26_value.mono_l : ∀ k, (∀ y0 y1, LeC (r26_value.l0 k y0 y1) (r26_value.l0 (k + 1) y0 y1))
 | 0 => fun _ _ => ⟨fun r h => by simp [r26_value.l0] at h⟩
 | k + 1 => by have ih0 := r26_value.mono_l k; exact fun _ _ => by unfold r26_value.l0; exact lm
theorem r26_value.mono : ∀ a0 k, LeO (r26_value.f k a0) (r26_value.f (k + 1) a0) := by
 intro a0 k
 have ih0 := r26_value.mono_l k
 unfold r26_value.f
 exact lo
instance r26_value.mI {a0 k} : LeC (r26_value.f k a0) (r26_value.f (k + 1) a0) := ⟨r26_value.mono _ _⟩
theorem r26_value.calls (k : Nat) (a0 : Int) (r : Int) (w : World) (h : r26_value.f k a0 = some r) :
 Calls Tryz.prog 61 #[.int .u8 a0] w fun e w' => e = .returned (.int .i64 r) ∧ Drawn0 w w' := by
 have H : (r26_value.l0 k a0 0) = some r := h
 clear h
 have H' := Aside0.mk H
 clear H
 go_enter Tryz.func61, Tryz.ntmps61
 go_wp2
 go_loopg [3] k (fun kq v3 w' => ∃ (x3_1 : Int), v3 = .int .i64 x3_1 ∧ Aside0 (r26_value.l0 kq a0 x3_1 = some r) ∧ Aside0 (kq ≤ k) ∧ Drawn0 w w')
 case atStart => exact ⟨(0), rs_, H', ⟨Nat.le_refl _⟩, dr_⟩
 case round =>
  clear H'
  obtain ⟨x3_1, rfl, HA, HK1, ⟨m1, rfl⟩⟩ := hrel
  cases gk with
  | zero => exact absurd HA.out (by simp [r26_value.l0])
  | succ k1 =>
   have H := HA.out
   clear HA
   simp only [r26_value.l0] at H
   by_cases c2 : x3_1 < 16
   ·
    rw [if_pos c2] at H
    have c2b0 : decide (x3_1 < 16) = true := decide_eq_true c2
    clear c2
    obtain ⟨c3b0, H⟩ := gdd H
    by_cases c5 : (bt (⟨#[48, 49, 50, 51, 52, 53, 54, 55, 56, 57, 97, 98, 99, 100, 101, 102]⟩ : ByteArray) x3_1) = a0
    ·
     rw [if_pos c5] at H
     have c5b0 : ((bt (⟨#[48, 49, 50, 51, 52, 53, 54, 55, 56, 57, 97, 98, 99, 100, 101, 102]⟩ : ByteArray) x3_1) == a0) = true := beq_iff_eq.mpr c5
     have c5b1 : ((bt (⟨#[48, 49, 50, 51, 52, 53, 54, 55, 56, 57, 97, 98, 99, 100, 101, 102]⟩ : ByteArray) x3_1) != a0) = false := bne_eq_false_iff_eq.mpr c5
     clear c5
     obtain rfl := Option.some.inj H
     have p4 : 0 ≤ (x3_1 : Int) := od
     have q4 : x3_1 < (16 : Int) := od
     have hx4 := bt_at (⟨#[48, 49, 50, 51, 52, 53, 54, 55, 56, 57, 97, 98, 99, 100, 101, 102]⟩ : ByteArray) x3_1
     replace p4 := eq_true p4
     replace q4 := eq_true q4
     go_wp2
     go_ret
     exact ⟨rs_, dr_⟩
    ·
     rw [if_neg c5] at H
     have c5b0 : ((bt (⟨#[48, 49, 50, 51, 52, 53, 54, 55, 56, 57, 97, 98, 99, 100, 101, 102]⟩ : ByteArray) x3_1) == a0) = false := beq_eq_false_iff_ne.mpr c5
     have c5b1 : ((bt (⟨#[48, 49, 50, 51, 52, 53, 54, 55, 56, 57, 97, 98, 99, 100, 101, 102]⟩ : ByteArray) x3_1) != a0) = true := bne_iff_ne.mpr c5
     have H' := Aside0.mk H
     clear H
     have p4 : 0 ≤ (x3_1 : Int) := od
     have q4 : x3_1 < (16 : Int) := od
     have hx4 := bt_at (⟨#[48, 49, 50, 51, 52, 53, 54, 55, 56, 57, 97, 98, 99, 100, 101, 102]⟩ : ByteArray) x3_1
     replace p4 := eq_true p4
     replace q4 := eq_true q4
     go_wp2
     go_roundg k1
     case measure => have := HK1.out; omega
     case rel => exact ⟨(wrap64 (x3_1 + 1)), rs_, H', ⟨by have := HK1.out; omega⟩, dr_⟩
   ·
    rw [if_neg c2] at H
    have c2b0 : decide (x3_1 < 16) = false := decide_eq_false c2
    clear c2
    obtain rfl := Option.some.inj H
    go_wp2
    go_ret
    exact ⟨rs_, dr_⟩
mutual
def r26_bytes.j0 : Nat → ByteArray → Bool → Option (List Int × Bool)
 | 0, _, _ => none
 | k + 1, x0, x18 => if x18 = true then (some (([] : List Int), false)) else (r26_bytes.l0 k x0 ([] : List Int) 0)
def r26_bytes.l0 : Nat → ByteArray → List Int → Int → Option (List Int × Bool)
 | 0, _, _, _ => none
 | k + 1, x0, x4, x5 => if x5 < (x0.size : Int) then (if 0 ≤ x5 then ((r26_value.f k (bt x0 x5)).bind fun t245 => (if 0 ≤ (wrap64 (x5 + 1)) then (if (wrap64 (x5 + 1)) < (x0.size : Int) then ((r26_value.f k (bt x0 (wrap64 (x5 + 1)))).bind fun t246 => (if t245 < 0 then (some (([] : List Int), false)) else (if t246 < 0 then (some (([] : List Int), false)) else (if x4.length < 140737488355328 then (r26_bytes.l0 k x0 (x4 ++ [(wrap64 ((wrap64 (16 * t245)) + t246)) % 256]) (wrap64 (x5 + 2))) else (none))))) else (none)) else (none))) else (none)) else (some (x4, true))
end
def r26_bytes.f (k : Nat) (a0 : ByteArray) : Option (List Int × Bool) := if a0.toList = ([45] : List UInt8) then (some (([] : List Int), true)) else (if (a0.size : Int) = 0 then (r26_bytes.j0 k a0 true) else (r26_bytes.j0 k a0 (((a0.size : Int) % 2) != 0)))
theorem r26_bytes.mono_l : ∀ k, (∀ y0 y1, LeC (r26_bytes.j0 k y0 y1) (r26_bytes.j0 (k + 1) y0 y1)) ∧ (∀ y0 y1 y2, LeC (r26_bytes.l0 k y0 y1 y2) (r26_bytes.l0 (k + 1) y0 y1 y2))
 | 0 => ⟨fun _ _ => ⟨fun r h => by simp [r26_bytes.j0] at h⟩, fun _ _ _ => ⟨fun r h => by simp [r26_bytes.l0] at h⟩⟩
 | k + 1 => by obtain ⟨ih0, ih1⟩ := r26_bytes.mono_l k; exact ⟨fun _ _ => by unfold r26_bytes.j0; exact lm, fun _ _ _ => by unfold r26_bytes.l0; exact lm⟩
theorem r26_bytes.mono : ∀ a0 k, LeO (r26_bytes.f k a0) (r26_bytes.f (k + 1) a0) := by
 intro a0 k
 obtain ⟨ih0, ih1⟩ := r26_bytes.mono_l k
 unfold r26_bytes.f
 exact lo
instance r26_bytes.mI {a0 k} : LeC (r26_bytes.f k a0) (r26_bytes.f (k + 1) a0) := ⟨r26_bytes.mono _ _⟩
theorem r26_bytes.calls (k : Nat) (a0 : ByteArray) (r1 : List Int) (r2 : Bool) (w : World) (h : r26_bytes.f k a0 = some (r1, r2)) :
 Calls Tryz.prog 51 #[.string a0] w fun e w' => ∃ v0_ : Value, e = .returned (.tuple #[v0_, .bool r2]) ∧ Kd.R (Kd.int .u8) 5 w' w.heap.size (fun _ => True) v0_ r1 ∧ Below w.heap.size w w' := by
 have HB := Aside0.mk (Below.refl w.heap.size w)
 have H : (if a0.toList = ([45] : List UInt8) then (some (([] : List Int), true)) else (if (a0.size : Int) = 0 then (r26_bytes.j0 k a0 true) else (r26_bytes.j0 k a0 (((a0.size : Int) % 2) != 0)))) = some (r1, r2) := h
 clear h
 by_cases c2 : a0.toList = ([45] : List UInt8)
 ·
  rw [if_pos c2] at H
  have c2b0 : (a0.toList == ([45] : List UInt8)) = true := beq_iff_eq.mpr c2
  have c2b1 : (a0.toList != ([45] : List UInt8)) = false := bne_eq_false_iff_eq.mpr c2
  clear c2
  simp only [Option.some.injEq, Prod.mk.injEq] at H
  obtain ⟨rfl, rfl⟩ := H
  go_enter Tryz.func51, Tryz.ntmps51
  go_wp2
  repeat (go_quiet (fail); try go_wp2)
  go_ret2
  exact ⟨_, re_, nl_, uW HB.out⟩
 ·
  rw [if_neg c2] at H
  have c2b0 : (a0.toList == ([45] : List UInt8)) = false := beq_eq_false_iff_ne.mpr c2
  have c2b1 : (a0.toList != ([45] : List UInt8)) = true := bne_iff_ne.mpr c2
  have HC3 := Aside0.mk H
  clear H
  go_enter Tryz.func51, Tryz.ntmps51
  go_upto_region 3 with (fail)
  repeat (go_quiet (fail); go_upto_region 3 with (fail))
  go_cut [18] (fun v18 wc => ∃ (kq : Nat) (x18_2 : Bool), v18 = .bool x18_2 ∧ Aside0 (r26_bytes.j0 kq a0 x18_2 = some (r1, r2)) ∧ Aside0 (kq ≤ k) ∧ Aside0 (Below w.heap.size w wc))
  case first =>
   have H := HC3.out
   clear HC3
   by_cases c4 : (a0.size : Int) = 0
   ·
    rw [if_pos c4] at H
    have c4b0 : ((a0.size : Int) == 0) = true := beq_iff_eq.mpr c4
    have c4b1 : ((a0.size : Int) != 0) = false := bne_eq_false_iff_eq.mpr c4
    clear c4
    (first | rw [c4b0] | (simp only [i64_w, i32_w]; rw [c4b0]) | skip)
    have H' := Aside0.mk H
    clear H
    go_wp2
    repeat (go_quiet (fail); try go_wp2)
    go_meet
    case rel => exact ⟨_, (true), rs_, H', ⟨by first | omega | exact Nat.le_refl _⟩, ⟨uW HB.out⟩⟩
   ·
    rw [if_neg c4] at H
    have c4b0 : ((a0.size : Int) == 0) = false := beq_eq_false_iff_ne.mpr c4
    have c4b1 : ((a0.size : Int) != 0) = true := bne_iff_ne.mpr c4
    (first | rw [c4b0] | (simp only [i64_w, i32_w]; rw [c4b0]) | skip)
    have H' := Aside0.mk H
    clear H
    go_wp2
    repeat (go_quiet (fail); try go_wp2)
    go_meet
    case rel => exact ⟨_, ((((a0.size : Int) % 2) != 0)), rs_, H', ⟨by first | omega | exact Nat.le_refl _⟩, ⟨uW HB.out⟩⟩
  case rest =>
   clear HC3
   try clear c2
   try clear c2b0
   try clear c2b1
   try clear p2
   try clear c4
   try clear c4b0
   try clear c4b1
   obtain ⟨kq, x18_2, rfl, HA, HJ2, HB⟩ := hcut
   cases kq with
   | zero => exact absurd HA.out (by simp [r26_bytes.j0])
   | succ kj2 =>
    have H := HA.out
    clear HA
    simp only [r26_bytes.j0] at H
    by_cases c5 : x18_2 = true
    ·
     subst c5
     rw [if_pos rfl] at H
     simp only [Option.some.injEq, Prod.mk.injEq] at H
     obtain ⟨rfl, rfl⟩ := H
     go_wp2
     repeat (go_quiet (fail); try go_wp2)
     go_ret2
     exact ⟨_, re_, nl_, uW HB.out⟩
    ·
     replace c5 := Bool.eq_false_iff.mpr c5
     subst c5
     rw [if_neg (show ¬ (false = true) by decide)] at H
     have H' := Aside0.mk H
     clear H
     go_wp2
     repeat (go_quiet (fail); try go_wp2)
     go_loopg [4, 5] kj2 (fun kq v4 v5 w' => ∃ (x4_2 : List Int) (x5_2 : Int), v5 = .int .i64 x5_2 ∧ Aside0 (r26_bytes.l0 kq a0 x4_2 x5_2 = some (r1, r2)) ∧ Aside0 (kq ≤ kj2) ∧ Aside0 (Kd.R (Kd.int .u8) 5 w' w.heap.size (fun _ => True) v4 x4_2) ∧ Aside0 (Below w.heap.size w w'))
     case atStart => exact ⟨(([] : List Int)), (0), rs_, H', ⟨Nat.le_refl _⟩, ⟨nl_⟩, ⟨uW HB.out⟩⟩
     case round =>
      clear H'
      try clear c2
      try clear c2b0
      try clear c2b1
      try clear p2
      try clear c4
      try clear c4b0
      try clear c4b1
      try clear c5
      try clear p2
      obtain ⟨x4_2, x5_2, rfl, HA, HK2, HO_4, HB⟩ := hrel
      cases gk with
      | zero => exact absurd HA.out (by simp [r26_bytes.l0])
      | succ k2 =>
       have H := HA.out
       clear HA
       simp only [r26_bytes.l0] at H
       by_cases c6 : x5_2 < (a0.size : Int)
       ·
        rw [if_pos c6] at H
        have c6b0 : decide (x5_2 < (a0.size : Int)) = true := decide_eq_true c6
        clear c6
        obtain ⟨c7b0, H⟩ := gdd H
        obtain ⟨t245, A9, H⟩ := bs H
        try dsimp only at H
        obtain ⟨ji10, hji10⟩ : ∃ j_ : Int, (wrap64 (x5_2 + 1)) = j_ := ⟨_, rfl⟩
        (first | rw [hji10] at H | simp only [hji10] at H)
        (try rw [hji10] at A9)
        have hji10w : (IntKind.i64.wrap (x5_2 + 1)) = ji10 := (i64_w _).trans hji10
        obtain ⟨c11b0, H⟩ := gdd H
        obtain ⟨c12b0, H⟩ := gdd H
        obtain ⟨t246, A14, H⟩ := bs H
        try dsimp only at H
        by_cases c15 : t245 < 0
        ·
         rw [if_pos c15] at H
         have c15b0 : decide (t245 < 0) = true := decide_eq_true c15
         clear c15
         simp only [Option.some.injEq, Prod.mk.injEq] at H
         obtain ⟨rfl, rfl⟩ := H
         have p8 : 0 ≤ (x5_2 : Int) := od
         have q8 : x5_2 < (a0.size : Int) := od
         have hx8 := bt_at a0 x5_2
         replace p8 := eq_true p8
         replace q8 := eq_true q8
         go_wp2_with (first | (go_at_call 61; (with_reducible refine (r26_value.calls k2 (bt a0 x5_2) t245 _ A9.out).mono ?_); rintro e w' ⟨rfl, ⟨nd, rfl⟩⟩; (try first | exact ⟨rfl, _, World.drewN_drewN _ _ _⟩ | exact ⟨rfl, _, Eq.trans (World.drewN_drewN _ _ _) (congrArg (World.drewN _) (Nat.add_assoc _ _ _))⟩); have p13 : 0 ≤ ((ji10) : Int) := od; have q13 : (ji10) < (a0.size : Int) := od; have hx13 := bt_at a0 (ji10); replace p13 := eq_true p13; replace q13 := eq_true q13) | (go_at_call 61; (with_reducible refine (r26_value.calls k2 (bt a0 (ji10)) t246 _ A14.out).mono ?_); rintro e w' ⟨rfl, ⟨nd, rfl⟩⟩; (try first | exact ⟨rfl, _, World.drewN_drewN _ _ _⟩ | exact ⟨rfl, _, Eq.trans (World.drewN_drewN _ _ _) (congrArg (World.drewN _) (Nat.add_assoc _ _ _))⟩)))
         repeat (go_quiet (first | (go_at_call 61; (with_reducible refine (r26_value.calls k2 (bt a0 x5_2) t245 _ A9.out).mono ?_); rintro e w' ⟨rfl, ⟨nd, rfl⟩⟩; (try first | exact ⟨rfl, _, World.drewN_drewN _ _ _⟩ | exact ⟨rfl, _, Eq.trans (World.drewN_drewN _ _ _) (congrArg (World.drewN _) (Nat.add_assoc _ _ _))⟩); have p13 : 0 ≤ ((ji10) : Int) := od; have q13 : (ji10) < (a0.size : Int) := od; have hx13 := bt_at a0 (ji10); replace p13 := eq_true p13; replace q13 := eq_true q13) | (go_at_call 61; (with_reducible refine (r26_value.calls k2 (bt a0 (ji10)) t246 _ A14.out).mono ?_); rintro e w' ⟨rfl, ⟨nd, rfl⟩⟩; (try first | exact ⟨rfl, _, World.drewN_drewN _ _ _⟩ | exact ⟨rfl, _, Eq.trans (World.drewN_drewN _ _ _) (congrArg (World.drewN _) (Nat.add_assoc _ _ _))⟩))); try go_wp2_with (first | (go_at_call 61; (with_reducible refine (r26_value.calls k2 (bt a0 x5_2) t245 _ A9.out).mono ?_); rintro e w' ⟨rfl, ⟨nd, rfl⟩⟩; (try first | exact ⟨rfl, _, World.drewN_drewN _ _ _⟩ | exact ⟨rfl, _, Eq.trans (World.drewN_drewN _ _ _) (congrArg (World.drewN _) (Nat.add_assoc _ _ _))⟩); have p13 : 0 ≤ ((ji10) : Int) := od; have q13 : (ji10) < (a0.size : Int) := od; have hx13 := bt_at a0 (ji10); replace p13 := eq_true p13; replace q13 := eq_true q13) | (go_at_call 61; (with_reducible refine (r26_value.calls k2 (bt a0 (ji10)) t246 _ A14.out).mono ?_); rintro e w' ⟨rfl, ⟨nd, rfl⟩⟩; (try first | exact ⟨rfl, _, World.drewN_drewN _ _ _⟩ | exact ⟨rfl, _, Eq.trans (World.drewN_drewN _ _ _) (congrArg (World.drewN _) (Nat.add_assoc _ _ _))⟩))))
         go_ret2
         exact ⟨_, by first | rfl | (simp [errW_none, errW_some] <;> rfl) | (simp only [← hji10]; first | rfl | (simp [errW_none, errW_some] <;> rfl)) | (simp [*, errW_none, errW_some] <;> rfl), nl_, uW HB.out⟩
        ·
         rw [if_neg c15] at H
         have c15b0 : decide (t245 < 0) = false := decide_eq_false c15
         clear c15
         by_cases c16 : t246 < 0
         ·
          rw [if_pos c16] at H
          have c16b0 : decide (t246 < 0) = true := decide_eq_true c16
          clear c16
          simp only [Option.some.injEq, Prod.mk.injEq] at H
          obtain ⟨rfl, rfl⟩ := H
          have p8 : 0 ≤ (x5_2 : Int) := od
          have q8 : x5_2 < (a0.size : Int) := od
          have hx8 := bt_at a0 x5_2
          replace p8 := eq_true p8
          replace q8 := eq_true q8
          go_wp2_with (first | (go_at_call 61; (with_reducible refine (r26_value.calls k2 (bt a0 x5_2) t245 _ A9.out).mono ?_); rintro e w' ⟨rfl, ⟨nd, rfl⟩⟩; (try first | exact ⟨rfl, _, World.drewN_drewN _ _ _⟩ | exact ⟨rfl, _, Eq.trans (World.drewN_drewN _ _ _) (congrArg (World.drewN _) (Nat.add_assoc _ _ _))⟩); have p13 : 0 ≤ ((ji10) : Int) := od; have q13 : (ji10) < (a0.size : Int) := od; have hx13 := bt_at a0 (ji10); replace p13 := eq_true p13; replace q13 := eq_true q13) | (go_at_call 61; (with_reducible refine (r26_value.calls k2 (bt a0 (ji10)) t246 _ A14.out).mono ?_); rintro e w' ⟨rfl, ⟨nd, rfl⟩⟩; (try first | exact ⟨rfl, _, World.drewN_drewN _ _ _⟩ | exact ⟨rfl, _, Eq.trans (World.drewN_drewN _ _ _) (congrArg (World.drewN _) (Nat.add_assoc _ _ _))⟩)))
          repeat (go_quiet (first | (go_at_call 61; (with_reducible refine (r26_value.calls k2 (bt a0 x5_2) t245 _ A9.out).mono ?_); rintro e w' ⟨rfl, ⟨nd, rfl⟩⟩; (try first | exact ⟨rfl, _, World.drewN_drewN _ _ _⟩ | exact ⟨rfl, _, Eq.trans (World.drewN_drewN _ _ _) (congrArg (World.drewN _) (Nat.add_assoc _ _ _))⟩); have p13 : 0 ≤ ((ji10) : Int) := od; have q13 : (ji10) < (a0.size : Int) := od; have hx13 := bt_at a0 (ji10); replace p13 := eq_true p13; replace q13 := eq_true q13) | (go_at_call 61; (with_reducible refine (r26_value.calls k2 (bt a0 (ji10)) t246 _ A14.out).mono ?_); rintro e w' ⟨rfl, ⟨nd, rfl⟩⟩; (try first | exact ⟨rfl, _, World.drewN_drewN _ _ _⟩ | exact ⟨rfl, _, Eq.trans (World.drewN_drewN _ _ _) (congrArg (World.drewN _) (Nat.add_assoc _ _ _))⟩))); try go_wp2_with (first | (go_at_call 61; (with_reducible refine (r26_value.calls k2 (bt a0 x5_2) t245 _ A9.out).mono ?_); rintro e w' ⟨rfl, ⟨nd, rfl⟩⟩; (try first | exact ⟨rfl, _, World.drewN_drewN _ _ _⟩ | exact ⟨rfl, _, Eq.trans (World.drewN_drewN _ _ _) (congrArg (World.drewN _) (Nat.add_assoc _ _ _))⟩); have p13 : 0 ≤ ((ji10) : Int) := od; have q13 : (ji10) < (a0.size : Int) := od; have hx13 := bt_at a0 (ji10); replace p13 := eq_true p13; replace q13 := eq_true q13) | (go_at_call 61; (with_reducible refine (r26_value.calls k2 (bt a0 (ji10)) t246 _ A14.out).mono ?_); rintro e w' ⟨rfl, ⟨nd, rfl⟩⟩; (try first | exact ⟨rfl, _, World.drewN_drewN _ _ _⟩ | exact ⟨rfl, _, Eq.trans (World.drewN_drewN _ _ _) (congrArg (World.drewN _) (Nat.add_assoc _ _ _))⟩))))
          go_ret2
          exact ⟨_, by first | rfl | (simp [errW_none, errW_some] <;> rfl) | (simp only [← hji10]; first | rfl | (simp [errW_none, errW_some] <;> rfl)) | (simp [*, errW_none, errW_some] <;> rfl), nl_, uW HB.out⟩
         ·
          rw [if_neg c16] at H
          have c16b0 : decide (t246 < 0) = false := decide_eq_false c16
          clear c16
          obtain ⟨c17, H⟩ := gd H
          have LMc17 := Aside0.mk c17
          clear c17
          obtain ⟨y247, hy247⟩ : ∃ y_ : List Int, y_ = (x4_2 ++ [(wrap64 ((wrap64 (16 * t245)) + t246)) % 256]) := ⟨_, rfl⟩
          replace H : (r26_bytes.l0 k2 a0 y247 (wrap64 (x5_2 + 2))) = some (r1, r2) := by first | (rw [hy247]; with_reducible exact H) | (have H2_ := (Option.bind_some _ _).symm.trans H; rw [hy247]; with_reducible exact H2_) | (have H2_ := (Option.bind_some _ _).symm.trans H; with_reducible exact H2_) | with_reducible exact H | (rw [hy247]; exact H) | exact H
          have Ny247 := Aside0.mk hy247
          clear hy247
          have H' := Aside0.mk H
          clear H
          have p8 : 0 ≤ (x5_2 : Int) := od
          have q8 : x5_2 < (a0.size : Int) := od
          have hx8 := bt_at a0 x5_2
          replace p8 := eq_true p8
          replace q8 := eq_true q8
          go_wp2_with (first | (go_at_call 61; (with_reducible refine (r26_value.calls k2 (bt a0 x5_2) t245 _ A9.out).mono ?_); rintro e w' ⟨rfl, ⟨nd, rfl⟩⟩; (try first | exact ⟨rfl, _, World.drewN_drewN _ _ _⟩ | exact ⟨rfl, _, Eq.trans (World.drewN_drewN _ _ _) (congrArg (World.drewN _) (Nat.add_assoc _ _ _))⟩); have p13 : 0 ≤ ((ji10) : Int) := od; have q13 : (ji10) < (a0.size : Int) := od; have hx13 := bt_at a0 (ji10); replace p13 := eq_true p13; replace q13 := eq_true q13) | (go_at_call 61; (with_reducible refine (r26_value.calls k2 (bt a0 (ji10)) t246 _ A14.out).mono ?_); rintro e w' ⟨rfl, ⟨nd, rfl⟩⟩; (try first | exact ⟨rfl, _, World.drewN_drewN _ _ _⟩ | exact ⟨rfl, _, Eq.trans (World.drewN_drewN _ _ _) (congrArg (World.drewN _) (Nat.add_assoc _ _ _))⟩)) | ((with_reducible refine gate_builtin (b := .append) (xs := #[.tmp 40, .tmp 46]) rfl ?_); (try (refine gate_guard (by rfl) ?_; dsimp only)); at_builtin; refine Kd.R_append (Kd.int .u8) (w0 := w) w.heap.size rfl (.tmp 40) (.tmp 46) 35 5 (.int .u8 0) 1 rfl Tryz.underlying35 info5 rfl (by decide) (by omega) u4 x4_2 ((wrap64 ((wrap64 (16 * t245)) + t246)) % 256) [.int .u8 ((wrap64 ((wrap64 (16 * t245)) + t246)) % 256)] (fun _ => True) (fun _ => False) rfl rfl ?aP (fun _ hk => hk.elim) ?aF ?aO ?aB ?aS ?aL ?_; (case aP => exact rfl); (case aB => exact (uW HB.out)); (case aF => exact (fun _ _ => trivial)); (case aO => exact (uR HO_4.out)); (case aS => exact (below_size (uW HB.out))); (case aL => have := LMc17.out; omega); intro v248 w18 ho hb hg hat; rw [← Ny247.out] at ho; replace HB := Aside0.mk (hb); have HO249 := Aside0.mk (ho); clear HO_4; clear ho hb hg hat))
          repeat (go_quiet (first | (go_at_call 61; (with_reducible refine (r26_value.calls k2 (bt a0 x5_2) t245 _ A9.out).mono ?_); rintro e w' ⟨rfl, ⟨nd, rfl⟩⟩; (try first | exact ⟨rfl, _, World.drewN_drewN _ _ _⟩ | exact ⟨rfl, _, Eq.trans (World.drewN_drewN _ _ _) (congrArg (World.drewN _) (Nat.add_assoc _ _ _))⟩); have p13 : 0 ≤ ((ji10) : Int) := od; have q13 : (ji10) < (a0.size : Int) := od; have hx13 := bt_at a0 (ji10); replace p13 := eq_true p13; replace q13 := eq_true q13) | (go_at_call 61; (with_reducible refine (r26_value.calls k2 (bt a0 (ji10)) t246 _ A14.out).mono ?_); rintro e w' ⟨rfl, ⟨nd, rfl⟩⟩; (try first | exact ⟨rfl, _, World.drewN_drewN _ _ _⟩ | exact ⟨rfl, _, Eq.trans (World.drewN_drewN _ _ _) (congrArg (World.drewN _) (Nat.add_assoc _ _ _))⟩)) | ((with_reducible refine gate_builtin (b := .append) (xs := #[.tmp 40, .tmp 46]) rfl ?_); (try (refine gate_guard (by rfl) ?_; dsimp only)); at_builtin; refine Kd.R_append (Kd.int .u8) (w0 := w) w.heap.size rfl (.tmp 40) (.tmp 46) 35 5 (.int .u8 0) 1 rfl Tryz.underlying35 info5 rfl (by decide) (by omega) u4 x4_2 ((wrap64 ((wrap64 (16 * t245)) + t246)) % 256) [.int .u8 ((wrap64 ((wrap64 (16 * t245)) + t246)) % 256)] (fun _ => True) (fun _ => False) rfl rfl ?aP (fun _ hk => hk.elim) ?aF ?aO ?aB ?aS ?aL ?_; (case aP => exact rfl); (case aB => exact (uW HB.out)); (case aF => exact (fun _ _ => trivial)); (case aO => exact (uR HO_4.out)); (case aS => exact (below_size (uW HB.out))); (case aL => have := LMc17.out; omega); intro v248 w18 ho hb hg hat; rw [← Ny247.out] at ho; replace HB := Aside0.mk (hb); have HO249 := Aside0.mk (ho); clear HO_4; clear ho hb hg hat)); try go_wp2_with (first | (go_at_call 61; (with_reducible refine (r26_value.calls k2 (bt a0 x5_2) t245 _ A9.out).mono ?_); rintro e w' ⟨rfl, ⟨nd, rfl⟩⟩; (try first | exact ⟨rfl, _, World.drewN_drewN _ _ _⟩ | exact ⟨rfl, _, Eq.trans (World.drewN_drewN _ _ _) (congrArg (World.drewN _) (Nat.add_assoc _ _ _))⟩); have p13 : 0 ≤ ((ji10) : Int) := od; have q13 : (ji10) < (a0.size : Int) := od; have hx13 := bt_at a0 (ji10); replace p13 := eq_true p13; replace q13 := eq_true q13) | (go_at_call 61; (with_reducible refine (r26_value.calls k2 (bt a0 (ji10)) t246 _ A14.out).mono ?_); rintro e w' ⟨rfl, ⟨nd, rfl⟩⟩; (try first | exact ⟨rfl, _, World.drewN_drewN _ _ _⟩ | exact ⟨rfl, _, Eq.trans (World.drewN_drewN _ _ _) (congrArg (World.drewN _) (Nat.add_assoc _ _ _))⟩)) | ((with_reducible refine gate_builtin (b := .append) (xs := #[.tmp 40, .tmp 46]) rfl ?_); (try (refine gate_guard (by rfl) ?_; dsimp only)); at_builtin; refine Kd.R_append (Kd.int .u8) (w0 := w) w.heap.size rfl (.tmp 40) (.tmp 46) 35 5 (.int .u8 0) 1 rfl Tryz.underlying35 info5 rfl (by decide) (by omega) u4 x4_2 ((wrap64 ((wrap64 (16 * t245)) + t246)) % 256) [.int .u8 ((wrap64 ((wrap64 (16 * t245)) + t246)) % 256)] (fun _ => True) (fun _ => False) rfl rfl ?aP (fun _ hk => hk.elim) ?aF ?aO ?aB ?aS ?aL ?_; (case aP => exact rfl); (case aB => exact (uW HB.out)); (case aF => exact (fun _ _ => trivial)); (case aO => exact (uR HO_4.out)); (case aS => exact (below_size (uW HB.out))); (case aL => have := LMc17.out; omega); intro v248 w18 ho hb hg hat; rw [← Ny247.out] at ho; replace HB := Aside0.mk (hb); have HO249 := Aside0.mk (ho); clear HO_4; clear ho hb hg hat)))
          go_roundg k2
          case measure => have := HJ2.out; have := HK2.out; omega
          case rel => exact ⟨(y247), (wrap64 (x5_2 + 2)), rs_, H', ⟨by have := HJ2.out; have := HK2.out; omega⟩, ⟨uR HO249.out⟩, ⟨uW HB.out⟩⟩
       ·
        rw [if_neg c6] at H
        have c6b0 : decide (x5_2 < (a0.size : Int)) = false := decide_eq_false c6
        clear c6
        simp only [Option.some.injEq, Prod.mk.injEq] at H
        obtain ⟨rfl, rfl⟩ := H
        go_wp2
        repeat (go_quiet (fail); try go_wp2)
        go_ret2
        exact ⟨_, re_, uR HO_4.out, uW HB.out⟩
mutual
def r26_one.l0 : Nat → List ByteArray → Int → Int → Int → Option (Int × Int × List Int × Int)
 | 0, _, _, _, _ => none
 | k + 1, x4, x6, x255000, x255001 => if x6 < 4 then (if 0 < (x4.length : Int) then ((r26_names.f).bind fun t256 => (if 0 ≤ x6 then (if x6 < (t256.length : Int) then (if (rdOf ByteArray.empty x4 0).toList = (rdOf ByteArray.empty t256 x6).toList then (r26_one.l0 k x4 (wrap64 (x6 + 1)) x6 x255001) else (r26_one.l0 k x4 (wrap64 (x6 + 1)) x255000 x255001)) else (none)) else (none))) else (none)) else (if x255000 = 0 then (r26_one.j1 k x4 true x255000 x255001) else (if x255000 = 1 then (if (x4.length : Int) = 3 then (r26_one.j1 k x4 false x255000 x255001) else (r26_one.j1 k x4 true x255000 x255001)) else (r26_one.j1 k x4 ((x4.length : Int) != 2) x255000 x255001)))
def r26_one.j1 : Nat → List ByteArray → Bool → Int → Int → Option (Int × Int × List Int × Int)
 | 0, _, _, _, _ => none
 | k + 1, x4, x50, x255000, x255001 => if x50 = true then (some (0, 0, ([] : List Int), 2)) else (if 1 < (x4.length : Int) then ((r01_Read.f k (rdOf ByteArray.empty x4 1)).bind fun bt261 => (if bt261.2 = 0 then (if bt261.1 < 0 then (r26_one.j2 k x4 bt261.1 bt261.2 true x255000 x255001) else ((r26_most.f x255000).bind fun t263 => (r26_one.j2 k x4 bt261.1 bt261.2 (decide (bt261.1 > t263)) x255000 x255001))) else (r26_one.j2 k x4 bt261.1 bt261.2 false x255000 x255001))) else (none))
def r26_one.j2 : Nat → List ByteArray → Int → Int → Bool → Int → Int → Option (Int × Int × List Int × Int)
 | 0, _, _, _, _, _, _ => none
 | k + 1, x4, x7, x8, x71, x255000, x255001 => if x71 = true then (r26_one.j3 k x4 x7 3 x255000 x255001) else (r26_one.j3 k x4 x7 x8 x255000 x255001)
def r26_one.j3 : Nat → List ByteArray → Int → Int → Int → Int → Option (Int × Int × List Int × Int)
 | 0, _, _, _, _, _ => none
 | k + 1, x4, x7, x8, x255000, x255001 => if x8 = 0 then (if x255000 = 1 then (if 2 < (x4.length : Int) then ((r26_bytes.f k (rdOf ByteArray.empty x4 2)).bind fun bt265 => (if bt265.2 = true then (some (x255000, x7, bt265.1, 0)) else (some (0, 0, ([] : List Int), 2)))) else (none)) else (some (x255000, x7, ([] : List Int), 0))) else (some (0, 0, ([] : List Int), x8))
end
def r26_one.f (k : Nat) (a0 : ByteArray) : Option (Int × Int × List Int × Int) := (r02_Split.f k a0 32).bind fun t251 => (r26_one.l0 k t251 1 0 0)
theorem r26_one.mono_l : ∀ k, (∀ y0 y1 y2 y3, LeC (r26_one.l0 k y0 y1 y2 y3) (r26_one.l0 (k + 1) y0 y1 y2 y3)) ∧ (∀ y0 y1 y2 y3, LeC (r26_one.j1 k y0 y1 y2 y3) (r26_one.j1 (k + 1) y0 y1 y2 y3)) ∧ (∀ y0 y1 y2 y3 y4 y5, LeC (r26_one.j2 k y0 y1 y2 y3 y4 y5) (r26_one.j2 (k + 1) y0 y1 y2 y3 y4 y5)) ∧ (∀ y0 y1 y2 y3 y4, LeC (r26_one.j3 k y0 y1 y2 y3 y4) (r26_one.j3 (k + 1) y0 y1 y2 y3 y4))
 | 0 => ⟨fun _ _ _ _ => ⟨fun r h => by simp [r26_one.l0] at h⟩, fun _ _ _ _ => ⟨fun r h => by simp [r26_one.j1] at h⟩, fun _ _ _ _ _ _ => ⟨fun r h => by simp [r26_one.j2] at h⟩, fun _ _ _ _ _ => ⟨fun r h => by simp [r26_one.j3] at h⟩⟩
 | k + 1 => by obtain ⟨ih0, ih1, ih2, ih3⟩ := r26_one.mono_l k; exact ⟨fun _ _ _ _ => by unfold r26_one.l0; exact lm, fun _ _ _ _ => by unfold r26_one.j1; exact lm, fun _ _ _ _ _ _ => by unfold r26_one.j2; exact lm, fun _ _ _ _ _ => by unfold r26_one.j3; exact lm⟩
theorem r26_one.mono : ∀ a0 k, LeO (r26_one.f k a0) (r26_one.f (k + 1) a0) := by
 intro a0 k
 obtain ⟨ih0, ih1, ih2, ih3⟩ := r26_one.mono_l k
 unfold r26_one.f
 exact lo
instance r26_one.mI {a0 k} : LeC (r26_one.f k a0) (r26_one.f (k + 1) a0) := ⟨r26_one.mono _ _⟩
def r26_one.T6 : Bool × List (List Nat × List Nat) := (true, [([], []), ([0], [0]), ([1], [1]), ([], []), ([], []), ([3, 4], [3, 4]), ([5], [5]), ([2, 6], [2, 6])])
def r26_one.B6 : List Nat := [0, 1, 3, 0, 0, 24, 56, 127]
theorem r26_one.tab6 : rtab .any (opsOf Tryz.f35 6) = r26_one.T6 := by kernel_rfl
theorem r26_one.bits6 : waitsOk r26_one.T6.2 r26_one.B6 = true := by kernel_rfl
theorem r26_one.grow {P : Program} {md : Region.Mode} {ops : Array Oper} {Q : Exit → Act → World → Prop} {S S' : World → Prop} (hSS : ∀ w, S' w → S w) : ∀ (fuel : Nat) (l : Array Bool) (a : Act) (w : World), S' w → wpAnyLast P md ops Q S' [] fuel l a w → wpAnyLast P md ops Q S [] fuel l a w
 | 0, _, _, _, _, h => h
 | n + 1, _, _, _, hS, h => ⟨h.1, fun i hi => wpOp_mono (fun a' w' h3 => ⟨fun _ _ => hSS _ (h3.1 (by simp) hS), r26_one.grow hSS n _ a' w' (h3.1 (by simp) hS) h3.2⟩) (h.2 i hi)⟩
theorem r26_one.calls (k : Nat) (a0 : ByteArray) (r1 : Int) (r2 : Int) (r3 : List Int) (r4 : Int) (w : World) (h : r26_one.f k a0 = some (r1, r2, r3, r4)) :
 Calls Tryz.prog 35 #[.string a0] w fun e w' => ∃ v2_ : Value, e = .returned (.tuple #[.agg #[.int .i64 r1, .int .i64 r2, v2_], .int .i64 r4]) ∧ Kd.R (Kd.int .u8) 5 w' w.heap.size (fun _ => True) v2_ r3 ∧ Below w.heap.size w w' := by
 have hu37 := Tryz.underlying37
 have HB := Aside0.mk (Below.refl w.heap.size w)
 have H : ((r02_Split.f k a0 32).bind fun t251 => (r26_one.l0 k t251 1 0 0)) = some (r1, r2, r3, r4) := h
 clear h
 obtain ⟨t251, A2, H⟩ := bs H
 try dsimp only at H
 have H' := Aside0.mk H
 clear H
 go_enter Tryz.func35, Tryz.ntmps35
 go_wp2_with (first | ((with_reducible refine gate_dst (N := 2) rfl ?_); (try (refine gate_guard (by rfl) ?_; dsimp only)); refine bx (N := 2) #[.int .i64 0, .int .i64 0, .slice none 0 0] 37 ?_; intro gb250 hg w3 hbox hb; have BK250 := Aside0.mk (hbox); have GW250 := gw hg (uW HB.out); have GE250 := GW250; replace HB := cW HB hb; clear hb hbox hg) | (refine gL (some 12) rfl Tryz.func49 #[.string a0, .int .u8 32] ?_; (with_reducible refine (r02_Split.calls k a0 32 t251 _ A2.out).mono ?_); rintro e w4 ⟨v252, rfl, ho0, hb⟩; refine ⟨_, rfl, ?_⟩; have HO253 := Aside0.mk (Kd.R_lower ho0 (below_size bl)); replace BK250 := cB BK250 hb; replace HB := Aside0.mk (below_step bl hb); (try clear hb); (try clear ho0)) | ((with_reducible refine gate_dst (N := 5) rfl ?_); (try (refine gate_guard (by rfl) ?_; dsimp only)); refine bx (N := 5) #[.int .i64 0, .int .i64 0, .slice none 0 0] 37 ?_; intro gb254 hg w5 hbox hb; replace HO253 := cR HO253 hb; have BK254 := Aside0.mk (hbox); have GW254 := gw hg bl; have GE254 := GW254; replace HB := Aside0.mk (below_step bl hb); have NB250_254 := Aside0.mk ((by rw [hg]; exact Nat.ne_of_lt (blk_lt (g := gb250) (o := .cells #[.int .i64 0, .int .i64 0, .slice none 0 0] 37 (0, 0)) (uB BK250.out)) : gb250 ≠ gb254)); have NB254_250 := Aside0.mk ((by rw [hg]; exact Nat.ne_of_gt (blk_lt (g := gb250) (o := .cells #[.int .i64 0, .int .i64 0, .slice none 0 0] 37 (0, 0)) (uB BK250.out)) : gb254 ≠ gb250)); replace BK250 := cB BK250 hb; clear hb hbox hg; have hnb6 := NB254_250.out; have hnc6 := NB250_254.out; obtain ⟨hcz7_0, hcz7_1, hcz7_2, hfz7_0, hfz7_1, hfz7_2⟩ := z3 BK254))
 (try simp only [Act.put, List.setIfInBounds_toArray, List.set_cons_zero, List.set_cons_succ])
 go_loopg [6] k (fun kq v6 w' => ∃ (x6_1 : Int) (x255000_1 : Int), v6 = .int .i64 x6_1 ∧ Aside0 (r26_one.l0 kq t251 x6_1 x255000_1 0 = some (r1, r2, r3, r4)) ∧ Aside0 (kq ≤ k) ∧ Aside0 (Kd.R Kd.string 9 w' w.heap.size (fun _ => True) v252 t251) ∧ Aside0 (w'.heap[gb250]? = some (.cells #[.int .i64 0, .int .i64 0, (.slice none 0 0)] 37 (0, 0))) ∧ Aside0 (w'.heap[gb254]? = some (.cells #[.int .i64 x255000_1, .int .i64 0, (.slice none 0 0)] 37 (0, 0))) ∧ Aside0 (Below w.heap.size w w'))
 case atStart => exact ⟨(1), (0), rs_, H', ⟨Nat.le_refl _⟩, ⟨by exact uR <| Kd.R_mono (Kd.R_far (p := ⟨gb254, 2, none⟩) (Kd.R_far (p := ⟨gb254, 1, none⟩) (Kd.R_far (p := ⟨gb254, 0, none⟩) (Kd.R_types HO253.out BK254.out (by decide)) (fun _ hk => hk.2) (.int .i64 0)) (fun _ hk => hk.2) (.int .i64 0)) (fun _ hk => hk.2) (.slice none 0 0)) (fun _ hk => trivial)⟩, ⟨by (with_reducible repeat (first | refine blk_drewN ?_ _ | refine blk_drew ?_ | refine blk_alloc ?_ _)); refine blk_far ?_ NB250_254.out _; (with_reducible repeat (first | refine blk_drewN ?_ _ | refine blk_drew ?_ | refine blk_alloc ?_ _)); refine blk_far ?_ NB250_254.out _; (with_reducible repeat (first | refine blk_drewN ?_ _ | refine blk_drew ?_ | refine blk_alloc ?_ _)); refine blk_far ?_ NB250_254.out _; exact uB <| BK250.out⟩, ⟨by (with_reducible repeat (first | refine blk_drewN ?_ _ | refine blk_drew ?_ | refine blk_alloc ?_ _)); refine blk_put (cs := #[.int .i64 0, .int .i64 0, .slice none 0 0]) ?_ 2 _ rfl; (with_reducible repeat (first | refine blk_drewN ?_ _ | refine blk_drew ?_ | refine blk_alloc ?_ _)); refine blk_put (cs := #[.int .i64 0, .int .i64 0, .slice none 0 0]) ?_ 1 _ rfl; (with_reducible repeat (first | refine blk_drewN ?_ _ | refine blk_drew ?_ | refine blk_alloc ?_ _)); refine blk_put (cs := #[.int .i64 0, .int .i64 0, .slice none 0 0]) ?_ 0 _ rfl; exact uB <| BK254.out⟩, ⟨bl⟩⟩
 case round =>
  clear H'
  try clear p2
  try clear c3
  try clear c4
  try clear c6
  try clear hcz7_0
  try clear hcz7_1
  try clear hcz7_2
  try clear hfz7_0
  try clear hfz7_1
  try clear hfz7_2
  obtain ⟨x6_1, x255000_1, rfl, HA, HK1, HO_4, BK250, BK254, HB⟩ := hrel
  cases gk with
  | zero => exact absurd HA.out (by simp [r26_one.l0])
  | succ k1 =>
   have H := HA.out
   clear HA
   simp only [r26_one.l0] at H
   by_cases c8 : x6_1 < 4
   ·
    rw [if_pos c8] at H
    have c8b0 : decide (x6_1 < 4) = true := decide_eq_true c8
    clear c8
    obtain ⟨c9, H⟩ := gd H
    have c9b0 : decide (0 < (t251.length : Int)) = true := decide_eq_true c9
    have c9b1 : decide (0 < t251.length) = true := decide_eq_true (by omega)
    clear c9
    obtain ⟨t256, A10, H⟩ := bs H
    try dsimp only at H
    obtain ⟨c11b0, H⟩ := gdd H
    obtain ⟨c12b0, H⟩ := gdd H
    by_cases c13 : (rdOf ByteArray.empty t251 0).toList = (rdOf ByteArray.empty t256 x6_1).toList
    ·
     rw [if_pos c13] at H
     have c13b0 : ((rdOf ByteArray.empty t251 0).toList == (rdOf ByteArray.empty t256 x6_1).toList) = true := beq_iff_eq.mpr c13
     have c13b1 : ((rdOf ByteArray.empty t251 0).toList != (rdOf ByteArray.empty t256 x6_1).toList) = false := bne_eq_false_iff_eq.mpr c13
     clear c13
     have H' := Aside0.mk H
     clear H
     try go_wp2
     replace HO_4 := Aside0.mk (Kd.R_drew HO_4.out)
     replace BK250 := Aside0.mk (blk_drew BK250.out)
     replace BK254 := Aside0.mk (blk_drew BK254.out)
     replace HB := Aside0.mk (below_drew1 HB.out)
     obtain ⟨Ao15, co15, eo15⟩ := Kd.R_slice HO_4.out
     (first | subst eo15 | (injection eo15 with f1_ f2_ f3_; have f4_ := f1_.symm; have f5_ := f3_.symm; clear f1_ f2_ f3_; subst f4_; subst f5_))
     have p255 : 0 ≤ (0 : Int) := (by omega)
     have q255 : 0 < (t251.length : Int) := od
     obtain ⟨ad255, e255, hx255_0⟩ := Kd.at_string (Kd.R_reads' HO_4.out).2.2 0 p255 q255
     cases e255
     have qi255 : (0 < t251.length) = True := eq_true (by omega)
     (try rw [show ((0 : Int)).toNat = 0 from rfl] at hx255_0)
     (try rw [Addr.add_zero'] at hx255_0)
     replace p255 := eq_true p255
     replace q255 := eq_true q255
     refine start_ (n := 8) (S := fun w' => w'.cell? ad255 = some (.string (rdOf ByteArray.empty t251 0))) (ds := []) _ (by kernel_rfl) rfl rfl hx255_0 (fun hHeld => ?_); refine with_tabW r26_one.tab6 r26_one.bits6 (fun HT_ HW_ => ?_)
     generalize wr.drew = w14 at HO_4 BK250 BK254 HB hx255_0 hHeld ⊢
     refine p1 0 (some 18) ?_
     refine p1 1 (some 19) ?_
     refine p1 4 (some 22) ?_
     refine t1 2 (some 20) rfl rfl hHeld (Or.inl ⟨by rfl, by rintro w' s0; go_simp; with_reducible rfl⟩) ?_
     refine o1 3 (some 21) rfl rfl (fun K hK => ?_)
     refine gS Tryz.func24 #[] ?_
     with_reducible refine (r26_names.calls  t256 _ A10.out).mono ?_
     rintro e w16 ⟨v257, rfl, ho0, hb⟩
     have HS0_ := (hb.cell (World.block_lt_of_cell? _ _ (hHeld))).trans (hHeld)
     refine ⟨_, rfl, ?_⟩
     have HO258 := Aside0.mk (Kd.R_lower (Kd.R_new' ho0 (Kd.R_lt (uR HO_4.out))) (below_size bl))
     replace HO_4 := Aside0.mk (Kd.R_elder' (uR HO_4.out) (Kd.R_base ho0) hb)
     replace BK250 := cB BK250 hb
     replace BK254 := cB BK254 hb
     replace HB := Aside0.mk (below_step bl hb)
     (try clear hb)
     (try clear ho0)
     obtain ⟨Ao17, co17, eo17⟩ := Kd.R_slice HO258.out
     (first | subst eo17 | (injection eo17 with f1_ f2_ f3_; have f4_ := f1_.symm; have f5_ := f3_.symm; clear f1_ f2_ f3_; subst f4_; subst f5_))
     have p259 : 0 ≤ (x6_1 : Int) := od
     have q259 : x6_1 < (t256.length : Int) := od
     obtain ⟨ad259, e259, hx259_0⟩ := Kd.at_string (Kd.R_reads' HO258.out).2.2 x6_1 p259 q259
     cases e259
     replace p259 := eq_true p259
     replace q259 := eq_true q259
     refine hK.out _ _ HS0_ (fun hHeld => ?_)
     have hGrown_ : (fun w' : World => w'.cell? ad255 = some (.string (rdOf ByteArray.empty t251 0)) ∧ w'.cell? (ad259.add (x6_1).toNat) = some (.string (rdOf ByteArray.empty t256 x6_1))) _ := ⟨HS0_, hx259_0⟩
     refine r26_one.grow (S' := fun w' => w'.cell? ad255 = some (.string (rdOf ByteArray.empty t251 0)) ∧ w'.cell? (ad259.add (x6_1).toNat) = some (.string (rdOf ByteArray.empty t256 x6_1))) (fun w' h_ => h_.1) _ _ _ _ hGrown_ ?_
     clear hHeld
     have hHeld := hGrown_
     clear hGrown_
     clear hK K
     refine norm_ (a' := ?_) ?_ ?_
     rotate_left
     ·
      show Act.put _ (some 21) _ = _
      simp only [Act.put, List.setIfInBounds_toArray, List.set_cons_zero, List.set_cons_succ, i64_w, i32_w]
      rfl
     refine p1 5 (some 23) ?_
     refine t1 6 (some 24) rfl rfl hHeld (Or.inl ⟨by rfl, by rintro w' ⟨s0, s1⟩; go_simp; with_reducible rfl⟩) ?_
     refine p1 7 (some 25) ?_
     refine done_ (done_of HT_.out (by kernel_rfl)) ?_
     have hnb18 := NB254_250.out
     have hnc18 := NB250_254.out
     obtain ⟨hcz19_0, hcz19_1, hcz19_2, hfz19_0, hfz19_1, hfz19_2⟩ := z3 BK254
     try go_wp2
     go_roundg k1
     case measure => have := HK1.out; omega
     case rel => exact ⟨(wrap64 (x6_1 + 1)), (x6_1), rs_, H', ⟨by have := HK1.out; omega⟩, ⟨by exact uR <| Kd.R_mono (Kd.R_far (p := ⟨gb254, 0, none⟩) (Kd.R_types HO_4.out BK254.out (by decide)) (fun _ hk => hk.2) (.int .i64 x6_1)) (fun _ hk => trivial)⟩, ⟨by (with_reducible repeat (first | refine blk_drewN ?_ _ | refine blk_drew ?_ | refine blk_alloc ?_ _)); refine blk_far ?_ NB250_254.out _; exact uB <| BK250.out⟩, ⟨by (with_reducible repeat (first | refine blk_drewN ?_ _ | refine blk_drew ?_ | refine blk_alloc ?_ _)); refine blk_put (cs := #[.int .i64 x255000_1, .int .i64 0, .slice none 0 0]) ?_ 0 _ rfl; exact uB <| BK254.out⟩, ⟨bl⟩⟩
    ·
     rw [if_neg c13] at H
     have c13b0 : ((rdOf ByteArray.empty t251 0).toList == (rdOf ByteArray.empty t256 x6_1).toList) = false := beq_eq_false_iff_ne.mpr c13
     have c13b1 : ((rdOf ByteArray.empty t251 0).toList != (rdOf ByteArray.empty t256 x6_1).toList) = true := bne_iff_ne.mpr c13
     have H' := Aside0.mk H
     clear H
     try go_wp2
     replace HO_4 := Aside0.mk (Kd.R_drew HO_4.out)
     replace BK250 := Aside0.mk (blk_drew BK250.out)
     replace BK254 := Aside0.mk (blk_drew BK254.out)
     replace HB := Aside0.mk (below_drew1 HB.out)
     obtain ⟨Ao21, co21, eo21⟩ := Kd.R_slice HO_4.out
     (first | subst eo21 | (injection eo21 with f1_ f2_ f3_; have f4_ := f1_.symm; have f5_ := f3_.symm; clear f1_ f2_ f3_; subst f4_; subst f5_))
     have p255 : 0 ≤ (0 : Int) := (by omega)
     have q255 : 0 < (t251.length : Int) := od
     obtain ⟨ad255, e255, hx255_0⟩ := Kd.at_string (Kd.R_reads' HO_4.out).2.2 0 p255 q255
     cases e255
     have qi255 : (0 < t251.length) = True := eq_true (by omega)
     (try rw [show ((0 : Int)).toNat = 0 from rfl] at hx255_0)
     (try rw [Addr.add_zero'] at hx255_0)
     replace p255 := eq_true p255
     replace q255 := eq_true q255
     refine start_ (n := 8) (S := fun w' => w'.cell? ad255 = some (.string (rdOf ByteArray.empty t251 0))) (ds := []) _ (by kernel_rfl) rfl rfl hx255_0 (fun hHeld => ?_); refine with_tabW r26_one.tab6 r26_one.bits6 (fun HT_ HW_ => ?_)
     generalize wr.drew = w20 at HO_4 BK250 BK254 HB hx255_0 hHeld ⊢
     refine p1 0 (some 18) ?_
     refine p1 1 (some 19) ?_
     refine p1 4 (some 22) ?_
     refine t1 2 (some 20) rfl rfl hHeld (Or.inl ⟨by rfl, by rintro w' s0; go_simp; with_reducible rfl⟩) ?_
     refine o1 3 (some 21) rfl rfl (fun K hK => ?_)
     refine gS Tryz.func24 #[] ?_
     with_reducible refine (r26_names.calls  t256 _ A10.out).mono ?_
     rintro e w22 ⟨v257, rfl, ho0, hb⟩
     have HS0_ := (hb.cell (World.block_lt_of_cell? _ _ (hHeld))).trans (hHeld)
     refine ⟨_, rfl, ?_⟩
     have HO258 := Aside0.mk (Kd.R_lower (Kd.R_new' ho0 (Kd.R_lt (uR HO_4.out))) (below_size bl))
     replace HO_4 := Aside0.mk (Kd.R_elder' (uR HO_4.out) (Kd.R_base ho0) hb)
     replace BK250 := cB BK250 hb
     replace BK254 := cB BK254 hb
     replace HB := Aside0.mk (below_step bl hb)
     (try clear hb)
     (try clear ho0)
     obtain ⟨Ao23, co23, eo23⟩ := Kd.R_slice HO258.out
     (first | subst eo23 | (injection eo23 with f1_ f2_ f3_; have f4_ := f1_.symm; have f5_ := f3_.symm; clear f1_ f2_ f3_; subst f4_; subst f5_))
     have p259 : 0 ≤ (x6_1 : Int) := od
     have q259 : x6_1 < (t256.length : Int) := od
     obtain ⟨ad259, e259, hx259_0⟩ := Kd.at_string (Kd.R_reads' HO258.out).2.2 x6_1 p259 q259
     cases e259
     replace p259 := eq_true p259
     replace q259 := eq_true q259
     refine hK.out _ _ HS0_ (fun hHeld => ?_)
     have hGrown_ : (fun w' : World => w'.cell? ad255 = some (.string (rdOf ByteArray.empty t251 0)) ∧ w'.cell? (ad259.add (x6_1).toNat) = some (.string (rdOf ByteArray.empty t256 x6_1))) _ := ⟨HS0_, hx259_0⟩
     refine r26_one.grow (S' := fun w' => w'.cell? ad255 = some (.string (rdOf ByteArray.empty t251 0)) ∧ w'.cell? (ad259.add (x6_1).toNat) = some (.string (rdOf ByteArray.empty t256 x6_1))) (fun w' h_ => h_.1) _ _ _ _ hGrown_ ?_
     clear hHeld
     have hHeld := hGrown_
     clear hGrown_
     clear hK K
     refine norm_ (a' := ?_) ?_ ?_
     rotate_left
     ·
      show Act.put _ (some 21) _ = _
      simp only [Act.put, List.setIfInBounds_toArray, List.set_cons_zero, List.set_cons_succ, i64_w, i32_w]
      rfl
     refine p1 5 (some 23) ?_
     refine t1 6 (some 24) rfl rfl hHeld (Or.inl ⟨by rfl, by rintro w' ⟨s0, s1⟩; go_simp; with_reducible rfl⟩) ?_
     refine p1 7 (some 25) ?_
     refine done_ (done_of HT_.out (by kernel_rfl)) ?_
     try go_wp2
     go_roundg k1
     case measure => have := HK1.out; omega
     case rel => exact ⟨(wrap64 (x6_1 + 1)), (x255000_1), rs_, H', ⟨by have := HK1.out; omega⟩, ⟨by exact uR <| Kd.R_mono HO_4.out (fun _ hk => trivial)⟩, ⟨uB BK250.out⟩, ⟨uB BK254.out⟩, ⟨bl⟩⟩
   ·
    rw [if_neg c8] at H
    have c8b0 : decide (x6_1 < 4) = false := decide_eq_false c8
    clear c8
    have HC24 := Aside0.mk H
    clear H
    go_upto_region 8 with (fail)
    go_cut [50] (fun v50 wc => ∃ (kq : Nat) (x50_23 : Bool), v50 = .bool x50_23 ∧ Aside0 (r26_one.j1 kq t251 x50_23 x255000_1 0 = some (r1, r2, r3, r4)) ∧ Aside0 (kq ≤ k1) ∧ Aside0 (Kd.R Kd.string 9 wc w.heap.size (fun _ => True) v252 t251) ∧ Aside0 (wc.heap[gb250]? = some (.cells #[.int .i64 0, .int .i64 0, (.slice none 0 0)] 37 (0, 0))) ∧ Aside0 (wc.heap[gb254]? = some (.cells #[.int .i64 x255000_1, .int .i64 0, (.slice none 0 0)] 37 (0, 0))) ∧ Aside0 (Below w.heap.size w wc))
    case first =>
     have H := HC24.out
     clear HC24
     by_cases c25 : x255000_1 = 0
     ·
      rw [if_pos c25] at H
      have c25b0 : (x255000_1 == 0) = true := beq_iff_eq.mpr c25
      have c25b1 : (x255000_1 != 0) = false := bne_eq_false_iff_eq.mpr c25
      clear c25
      (first | rw [c25b0] | (simp only [i64_w, i32_w]; rw [c25b0]) | skip)
      have H' := Aside0.mk H
      clear H
      have hnb26 := NB254_250.out
      have hnc26 := NB250_254.out
      obtain ⟨hcz27_0, hcz27_1, hcz27_2, hfz27_0, hfz27_1, hfz27_2⟩ := z3 BK254
      go_wp2
      go_meet
      case rel => exact ⟨_, (true), rs_, H', ⟨by have := HK1.out; first | omega | exact Nat.le_refl _⟩, ⟨uR HO_4.out⟩, ⟨uB BK250.out⟩, ⟨uB BK254.out⟩, ⟨bl⟩⟩
     ·
      rw [if_neg c25] at H
      have c25b0 : (x255000_1 == 0) = false := beq_eq_false_iff_ne.mpr c25
      have c25b1 : (x255000_1 != 0) = true := bne_iff_ne.mpr c25
      (first | rw [c25b0] | (simp only [i64_w, i32_w]; rw [c25b0]) | skip)
      by_cases c28 : x255000_1 = 1
      ·
       rw [if_pos c28] at H
       have c28b0 : (x255000_1 == 1) = true := beq_iff_eq.mpr c28
       have c28b1 : (x255000_1 != 1) = false := bne_eq_false_iff_eq.mpr c28
       clear c28
       by_cases c29 : (t251.length : Int) = 3
       ·
        rw [if_pos c29] at H
        have c29b0 : ((t251.length : Int) == 3) = true := beq_iff_eq.mpr c29
        have c29b1 : ((t251.length : Int) != 3) = false := bne_eq_false_iff_eq.mpr c29
        clear c29
        have H' := Aside0.mk H
        clear H
        have hnb30 := NB254_250.out
        have hnc30 := NB250_254.out
        obtain ⟨hcz31_0, hcz31_1, hcz31_2, hfz31_0, hfz31_1, hfz31_2⟩ := z3 BK254
        obtain ⟨Ao32, co32, eo32⟩ := Kd.R_slice HO_4.out
        subst eo32
        go_wp2
        go_meet
        case rel => exact ⟨_, (false), rs_, H', ⟨by have := HK1.out; first | omega | exact Nat.le_refl _⟩, ⟨uR HO_4.out⟩, ⟨uB BK250.out⟩, ⟨uB BK254.out⟩, ⟨bl⟩⟩
       ·
        rw [if_neg c29] at H
        have c29b0 : ((t251.length : Int) == 3) = false := beq_eq_false_iff_ne.mpr c29
        have c29b1 : ((t251.length : Int) != 3) = true := bne_iff_ne.mpr c29
        have H' := Aside0.mk H
        clear H
        have hnb33 := NB254_250.out
        have hnc33 := NB250_254.out
        obtain ⟨hcz34_0, hcz34_1, hcz34_2, hfz34_0, hfz34_1, hfz34_2⟩ := z3 BK254
        obtain ⟨Ao35, co35, eo35⟩ := Kd.R_slice HO_4.out
        subst eo35
        go_wp2
        go_meet
        case rel => exact ⟨_, (true), rs_, H', ⟨by have := HK1.out; first | omega | exact Nat.le_refl _⟩, ⟨uR HO_4.out⟩, ⟨uB BK250.out⟩, ⟨uB BK254.out⟩, ⟨bl⟩⟩
      ·
       rw [if_neg c28] at H
       have c28b0 : (x255000_1 == 1) = false := beq_eq_false_iff_ne.mpr c28
       have c28b1 : (x255000_1 != 1) = true := bne_iff_ne.mpr c28
       have H' := Aside0.mk H
       clear H
       have hnb36 := NB254_250.out
       have hnc36 := NB250_254.out
       obtain ⟨hcz37_0, hcz37_1, hcz37_2, hfz37_0, hfz37_1, hfz37_2⟩ := z3 BK254
       obtain ⟨Ao38, co38, eo38⟩ := Kd.R_slice HO_4.out
       subst eo38
       go_wp2
       go_meet
       case rel => exact ⟨_, (((t251.length : Int) != 2)), rs_, H', ⟨by have := HK1.out; first | omega | exact Nat.le_refl _⟩, ⟨uR HO_4.out⟩, ⟨uB BK250.out⟩, ⟨uB BK254.out⟩, ⟨bl⟩⟩
    case rest =>
     clear HC24
     try clear c1
     try clear c2
     try clear p2
     try clear q2
     try clear hx2
     try clear qi2
     try clear c3
     try clear c4
     try clear c6
     try clear p6
     try clear c8
     try clear c8b0
     try clear c9
     try clear c9b0
     try clear c9b1
     try clear c11
     try clear c11b0
     try clear c12
     try clear c12b0
     try clear c13
     try clear c13b0
     try clear c13b1
     try clear c18
     try clear c24
     try clear c25
     try clear c25b0
     try clear c25b1
     try clear p25
     try clear q25
     try clear hx25
     try clear qi25
     try clear c26
     try clear c28
     try clear c28b0
     try clear c28b1
     try clear c29
     try clear c29b0
     try clear c29b1
     try clear c30
     try clear c33
     try clear c35
     try clear c36
     try clear hcz19_0
     try clear hcz19_1
     try clear hcz19_2
     try clear hcz27_0
     try clear hcz27_1
     try clear hcz27_2
     try clear hcz31_0
     try clear hcz31_1
     try clear hcz31_2
     try clear hcz34_0
     try clear hcz34_1
     try clear hcz34_2
     try clear hcz37_0
     try clear hcz37_1
     try clear hcz37_2
     try clear hcz7_0
     try clear hcz7_1
     try clear hcz7_2
     try clear hfz19_0
     try clear hfz19_1
     try clear hfz19_2
     try clear hfz27_0
     try clear hfz27_1
     try clear hfz27_2
     try clear hfz31_0
     try clear hfz31_1
     try clear hfz31_2
     try clear hfz34_0
     try clear hfz34_1
     try clear hfz34_2
     try clear hfz37_0
     try clear hfz37_1
     try clear hfz37_2
     try clear hfz7_0
     try clear hfz7_1
     try clear hfz7_2
     try clear hx255_0
     try clear hx259_0
     try clear p2
     try clear p255
     try clear p259
     try clear q255
     try clear q259
     obtain ⟨kq, x50_23, rfl, HA, HJ23, HO_4, BK250, BK254, HB⟩ := hcut
     cases kq with
     | zero => exact absurd HA.out (by simp [r26_one.j1])
     | succ kj23 =>
      have H := HA.out
      clear HA
      simp only [r26_one.j1] at H
      by_cases c39 : x50_23 = true
      ·
       subst c39
       rw [if_pos rfl] at H
       simp only [Option.some.injEq, Prod.mk.injEq] at H
       obtain ⟨rfl, rfl, rfl, rfl⟩ := H
       have hnb40 := NB250_254.out
       have hnc40 := NB254_250.out
       obtain ⟨hcz41_0, hcz41_1, hcz41_2, hfz41_0, hfz41_1, hfz41_2⟩ := z3 BK250
       go_wp2
       refine bodyPost_ret (results_ct rfl _ _ gb250 37 #[.int .i64 0, .int .i64 0, .slice none 0 0] (0, 0) _ rfl (by (with_reducible repeat (first | refine blk_drewN ?_ _ | refine blk_drew ?_ | refine blk_alloc ?_ _)); refine blk_put (cs := #[.int .i64 0, .int .i64 0, .slice none 0 0]) ?_ 2 _ rfl; (with_reducible repeat (first | refine blk_drewN ?_ _ | refine blk_drew ?_ | refine blk_alloc ?_ _)); refine blk_put (cs := #[.int .i64 0, .int .i64 0, .slice none 0 0]) ?_ 1 _ rfl; (with_reducible repeat (first | refine blk_drewN ?_ _ | refine blk_drew ?_ | refine blk_alloc ?_ _)); refine blk_put (cs := #[.int .i64 0, .int .i64 0, .slice none 0 0]) ?_ 0 _ rfl; exact uB <| BK250.out) Tryz.underlying37 rfl (by kernel_rfl)) rfl ?_
       exact ⟨_, re_, nl_, bl⟩
      ·
       replace c39 := Bool.eq_false_iff.mpr c39
       subst c39
       rw [if_neg (show ¬ (false = true) by decide)] at H
       by_cases c42 : 1 < (t251.length : Int)
       ·
        rw [if_pos c42] at H
        have c42b0 : decide (1 < (t251.length : Int)) = true := decide_eq_true c42
        have c42b1 : decide (1 < t251.length) = true := decide_eq_true (by omega)
        clear c42
        obtain ⟨⟨t261, t262⟩, A43, H⟩ := bs H
        try dsimp only at H
        have HC44 := Aside0.mk H
        clear H
        obtain ⟨Ao45, co45, eo45⟩ := Kd.R_slice HO_4.out
        subst eo45
        have p260 : 0 ≤ (1 : Int) := (by omega)
        have q260 : 1 < (t251.length : Int) := od
        obtain ⟨ad260, e260, hx260_0⟩ := Kd.at_string (Kd.R_reads' HO_4.out).2.2 1 p260 q260
        cases e260
        (try simp only [show (1 : Int).toNat = 1 from rfl, Nat.reduceMul, Nat.reduceEqDiff, Go.Addr.add, ↓reduceIte] at hx260_0)
        have qi260 : (1 < t251.length) = True := eq_true (by omega)
        (try rw [show ((1 : Int)).toNat = 1 from rfl] at hx260_0)
        replace p260 := eq_true p260
        replace q260 := eq_true q260
        go_upto_region 11 with (first | (refine gL (some 56) rfl Tryz.func50 #[.string (rdOf ByteArray.empty t251 1)] ?_; (with_reducible refine (r01_Read.calls kj23 (rdOf ByteArray.empty t251 1) t261 t262 _ A43.out).mono ?_); rintro e w' ⟨rfl, ⟨nd, rfl⟩⟩; refine ⟨_, rfl, ?_⟩))
        (try simp only [Act.put, List.setIfInBounds_toArray, List.set_cons_zero, List.set_cons_succ])
        go_cut [71] (fun v71 wc => ∃ (kq : Nat) (x71_43 : Bool), v71 = .bool x71_43 ∧ Aside0 (r26_one.j2 kq t251 t261 t262 x71_43 x255000_1 0 = some (r1, r2, r3, r4)) ∧ Aside0 (kq ≤ kj23) ∧ Aside0 (Kd.R Kd.string 9 wc w.heap.size (fun _ => True) (.slice (some ad260) t251.length co45) t251) ∧ Aside0 (wc.heap[gb250]? = some (.cells #[.int .i64 0, .int .i64 0, (.slice none 0 0)] 37 (0, 0))) ∧ Aside0 (wc.heap[gb254]? = some (.cells #[.int .i64 x255000_1, .int .i64 0, (.slice none 0 0)] 37 (0, 0))) ∧ Aside0 (Below w.heap.size w wc))
        case first =>
         have H := HC44.out
         clear HC44
         by_cases c46 : t262 = 0
         ·
          rw [if_pos c46] at H
          have c46b0 : (t262 == 0) = true := beq_iff_eq.mpr c46
          have c46b1 : (t262 != 0) = false := bne_eq_false_iff_eq.mpr c46
          clear c46
          (first | rw [c46b0] | (simp only [i64_w, i32_w]; rw [c46b0]) | skip)
          by_cases c47 : t261 < 0
          ·
           rw [if_pos c47] at H
           have c47b0 : decide (t261 < 0) = true := decide_eq_true c47
           clear c47
           have H' := Aside0.mk H
           clear H
           go_wp2
           go_meet
           case rel => exact ⟨_, (true), rs_, H', ⟨by have := HK1.out; have := HJ23.out; first | omega | exact Nat.le_refl _⟩, ⟨uR HO_4.out⟩, ⟨uB BK250.out⟩, ⟨uB BK254.out⟩, ⟨bl⟩⟩
          ·
           rw [if_neg c47] at H
           have c47b0 : decide (t261 < 0) = false := decide_eq_false c47
           clear c47
           obtain ⟨t263, A48, H⟩ := bs H
           try dsimp only at H
           have H' := Aside0.mk H
           clear H
           have hnb49 := NB254_250.out
           have hnc49 := NB250_254.out
           obtain ⟨hcz50_0, hcz50_1, hcz50_2, hfz50_0, hfz50_1, hfz50_2⟩ := z3 BK254
           go_wp2_with (first | (go_at_call 40; (with_reducible refine (r26_most.calls x255000_1 t263 _ A48.out).mono ?_); rintro e w' ⟨rfl, ⟨nd, rfl⟩⟩))
           go_meet
           case rel => exact ⟨_, (decide (t261 > t263)), rs_, H', ⟨by have := HK1.out; have := HJ23.out; first | omega | exact Nat.le_refl _⟩, ⟨uR HO_4.out⟩, ⟨uB BK250.out⟩, ⟨uB BK254.out⟩, ⟨bl⟩⟩
         ·
          rw [if_neg c46] at H
          have c46b0 : (t262 == 0) = false := beq_eq_false_iff_ne.mpr c46
          have c46b1 : (t262 != 0) = true := bne_iff_ne.mpr c46
          (first | rw [c46b0] | (simp only [i64_w, i32_w]; rw [c46b0]) | skip)
          have H' := Aside0.mk H
          clear H
          go_wp2
          go_meet
          case rel => exact ⟨_, (false), rs_, H', ⟨by have := HK1.out; have := HJ23.out; first | omega | exact Nat.le_refl _⟩, ⟨uR HO_4.out⟩, ⟨uB BK250.out⟩, ⟨uB BK254.out⟩, ⟨bl⟩⟩
        case rest =>
         clear HC44
         try clear c1
         try clear c2
         try clear p2
         try clear q2
         try clear hx2
         try clear qi2
         try clear c3
         try clear c4
         try clear c5
         try clear c6
         try clear p6
         try clear c8
         try clear c8b0
         try clear c9
         try clear c9b0
         try clear c9b1
         try clear c11
         try clear c11b0
         try clear c12
         try clear c12b0
         try clear c13
         try clear c13b0
         try clear c13b1
         try clear c18
         try clear c24
         try clear c25
         try clear c25b0
         try clear c25b1
         try clear p25
         try clear q25
         try clear hx25
         try clear qi25
         try clear c26
         try clear p26
         try clear q26
         try clear hx26
         try clear qi26
         try clear c28
         try clear c28b0
         try clear c28b1
         try clear c29
         try clear c29b0
         try clear c29b1
         try clear c30
         try clear c33
         try clear c35
         try clear c36
         try clear c39
         try clear c40
         try clear c42
         try clear c42b0
         try clear c42b1
         try clear c46
         try clear c46b0
         try clear c46b1
         try clear c47
         try clear c47b0
         try clear c49
         try clear c50
         try clear hcz19_0
         try clear hcz19_1
         try clear hcz19_2
         try clear hcz27_0
         try clear hcz27_1
         try clear hcz27_2
         try clear hcz31_0
         try clear hcz31_1
         try clear hcz31_2
         try clear hcz34_0
         try clear hcz34_1
         try clear hcz34_2
         try clear hcz37_0
         try clear hcz37_1
         try clear hcz37_2
         try clear hcz41_0
         try clear hcz41_1
         try clear hcz41_2
         try clear hcz50_0
         try clear hcz50_1
         try clear hcz50_2
         try clear hcz7_0
         try clear hcz7_1
         try clear hcz7_2
         try clear hfz19_0
         try clear hfz19_1
         try clear hfz19_2
         try clear hfz27_0
         try clear hfz27_1
         try clear hfz27_2
         try clear hfz31_0
         try clear hfz31_1
         try clear hfz31_2
         try clear hfz34_0
         try clear hfz34_1
         try clear hfz34_2
         try clear hfz37_0
         try clear hfz37_1
         try clear hfz37_2
         try clear hfz41_0
         try clear hfz41_1
         try clear hfz41_2
         try clear hfz50_0
         try clear hfz50_1
         try clear hfz50_2
         try clear hfz7_0
         try clear hfz7_1
         try clear hfz7_2
         try clear hx255_0
         try clear hx259_0
         try clear hx260_0
         try clear p2
         try clear p25
         try clear p255
         try clear p259
         try clear p260
         try clear p6
         try clear q2
         try clear q25
         try clear q255
         try clear q259
         try clear q260
         obtain ⟨kq, x71_43, rfl, HA, HJ43, HO_4, BK250, BK254, HB⟩ := hcut
         cases kq with
         | zero => exact absurd HA.out (by simp [r26_one.j2])
         | succ kj43 =>
          have H := HA.out
          clear HA
          simp only [r26_one.j2] at H
          have HC51 := Aside0.mk H
          clear H
          go_upto_if 71 with (fail)
          go_cut [8] (fun v8 wc => ∃ (kq : Nat) (x8_50 : Int), v8 = .int .i64 x8_50 ∧ Aside0 (r26_one.j3 kq t251 t261 x8_50 x255000_1 0 = some (r1, r2, r3, r4)) ∧ Aside0 (kq ≤ kj43) ∧ Aside0 (Kd.R Kd.string 9 wc w.heap.size (fun _ => True) (.slice (some ad260) t251.length co45) t251) ∧ Aside0 (wc.heap[gb250]? = some (.cells #[.int .i64 0, .int .i64 0, (.slice none 0 0)] 37 (0, 0))) ∧ Aside0 (wc.heap[gb254]? = some (.cells #[.int .i64 x255000_1, .int .i64 0, (.slice none 0 0)] 37 (0, 0))) ∧ Aside0 (Below w.heap.size w wc))
          case first =>
           have H := HC51.out
           clear HC51
           by_cases c52 : x71_43 = true
           ·
            subst c52
            rw [if_pos rfl] at H
            have H' := Aside0.mk H
            clear H
            go_wp2
            go_meet
            case rel => exact ⟨_, (3), rs_, H', ⟨by have := HK1.out; have := HJ23.out; have := HJ43.out; first | omega | exact Nat.le_refl _⟩, ⟨uR HO_4.out⟩, ⟨uB BK250.out⟩, ⟨uB BK254.out⟩, ⟨bl⟩⟩
           ·
            replace c52 := Bool.eq_false_iff.mpr c52
            subst c52
            rw [if_neg (show ¬ (false = true) by decide)] at H
            have H' := Aside0.mk H
            clear H
            go_wp2
            go_meet
            case rel => exact ⟨_, (t262), rs_, H', ⟨by have := HK1.out; have := HJ23.out; have := HJ43.out; first | omega | exact Nat.le_refl _⟩, ⟨uR HO_4.out⟩, ⟨uB BK250.out⟩, ⟨uB BK254.out⟩, ⟨bl⟩⟩
          case rest =>
           clear HC51
           try clear c1
           try clear c2
           try clear p2
           try clear q2
           try clear hx2
           try clear qi2
           try clear c3
           try clear c4
           try clear c5
           try clear c6
           try clear p6
           try clear c8
           try clear c8b0
           try clear c9
           try clear c9b0
           try clear c9b1
           try clear c11
           try clear c11b0
           try clear c12
           try clear c12b0
           try clear c13
           try clear c13b0
           try clear c13b1
           try clear c18
           try clear c24
           try clear c25
           try clear c25b0
           try clear c25b1
           try clear p25
           try clear q25
           try clear hx25
           try clear qi25
           try clear c26
           try clear p26
           try clear q26
           try clear hx26
           try clear qi26
           try clear c28
           try clear c28b0
           try clear c28b1
           try clear c29
           try clear c29b0
           try clear c29b1
           try clear c30
           try clear c33
           try clear c35
           try clear c36
           try clear c39
           try clear c40
           try clear c42
           try clear c42b0
           try clear c42b1
           try clear c46
           try clear c46b0
           try clear c46b1
           try clear c47
           try clear c47b0
           try clear c49
           try clear c50
           try clear c52
           try clear hcz19_0
           try clear hcz19_1
           try clear hcz19_2
           try clear hcz27_0
           try clear hcz27_1
           try clear hcz27_2
           try clear hcz31_0
           try clear hcz31_1
           try clear hcz31_2
           try clear hcz34_0
           try clear hcz34_1
           try clear hcz34_2
           try clear hcz37_0
           try clear hcz37_1
           try clear hcz37_2
           try clear hcz41_0
           try clear hcz41_1
           try clear hcz41_2
           try clear hcz50_0
           try clear hcz50_1
           try clear hcz50_2
           try clear hcz7_0
           try clear hcz7_1
           try clear hcz7_2
           try clear hfz19_0
           try clear hfz19_1
           try clear hfz19_2
           try clear hfz27_0
           try clear hfz27_1
           try clear hfz27_2
           try clear hfz31_0
           try clear hfz31_1
           try clear hfz31_2
           try clear hfz34_0
           try clear hfz34_1
           try clear hfz34_2
           try clear hfz37_0
           try clear hfz37_1
           try clear hfz37_2
           try clear hfz41_0
           try clear hfz41_1
           try clear hfz41_2
           try clear hfz50_0
           try clear hfz50_1
           try clear hfz50_2
           try clear hfz7_0
           try clear hfz7_1
           try clear hfz7_2
           try clear hx255_0
           try clear hx259_0
           try clear hx260_0
           try clear p2
           try clear p25
           try clear p255
           try clear p259
           try clear p26
           try clear p260
           try clear p6
           try clear q2
           try clear q25
           try clear q255
           try clear q259
           try clear q26
           try clear q260
           obtain ⟨kq, x8_50, rfl, HA, HJ50, HO_4, BK250, BK254, HB⟩ := hcut
           cases kq with
           | zero => exact absurd HA.out (by simp [r26_one.j3])
           | succ kj50 =>
            have H := HA.out
            clear HA
            simp only [r26_one.j3] at H
            by_cases c53 : x8_50 = 0
            ·
             rw [if_pos c53] at H
             have c53b0 : (x8_50 == 0) = true := beq_iff_eq.mpr c53
             have c53b1 : (x8_50 != 0) = false := bne_eq_false_iff_eq.mpr c53
             clear c53
             by_cases c54 : x255000_1 = 1
             ·
              rw [if_pos c54] at H
              have c54b0 : (x255000_1 == 1) = true := beq_iff_eq.mpr c54
              have c54b1 : (x255000_1 != 1) = false := bne_eq_false_iff_eq.mpr c54
              clear c54
              obtain ⟨c55, H⟩ := gd H
              have c55b0 : decide (2 < (t251.length : Int)) = true := decide_eq_true c55
              have c55b1 : decide (2 < t251.length) = true := decide_eq_true (by omega)
              clear c55
              obtain ⟨⟨t265, t266⟩, A56, H⟩ := bs H
              try dsimp only at H
              by_cases c57 : t266 = true
              ·
               subst c57
               rw [if_pos rfl] at H
               simp only [Option.some.injEq, Prod.mk.injEq] at H
               obtain ⟨rfl, rfl, rfl, rfl⟩ := H
               have hnb58 := NB254_250.out
               have hnc58 := NB250_254.out
               obtain ⟨hcz59_0, hcz59_1, hcz59_2, hfz59_0, hfz59_1, hfz59_2⟩ := z3 BK254
               have p264 : 0 ≤ (2 : Int) := (by omega)
               have q264 : 2 < (t251.length : Int) := od
               obtain ⟨ad264, e264, hx264_0⟩ := Kd.at_string (Kd.R_reads' HO_4.out).2.2 2 p264 q264
               obtain rfl : ad260 = ad264 := (by injection e264)
               (try simp only [show (2 : Int).toNat = 2 from rfl, Nat.reduceMul, Nat.reduceEqDiff, Go.Addr.add, ↓reduceIte] at hx264_0)
               have qi264 : (2 < t251.length) = True := eq_true (by omega)
               (try rw [show ((2 : Int)).toNat = 2 from rfl] at hx264_0)
               have hn264_0 : ad260.block ≠ gb254 := Kd.own_blk (Kd.R_ne HO_4.out BK254.out (by decide))
               replace hx264_0 := (cell_far (p := ⟨gb254, 1, none⟩) (by first | (rw [add_block]; exact hn264_0) | (show (Addr.add _ _).block ≠ _; rw [add_block]; exact hn264_0) | exact hn264_0) (.int .i64 t261)).trans hx264_0
               clear hn264_0
               replace p264 := eq_true p264
               replace q264 := eq_true q264
               go_wp2_with (first | (refine gL (some 85) rfl Tryz.func51 #[.string (rdOf ByteArray.empty t251 2)] ?_; (with_reducible refine (r26_bytes.calls kj50 (rdOf ByteArray.empty t251 2) t265 true _ A56.out).mono ?_); rintro e w60 ⟨v267, rfl, ho0, hb⟩; refine ⟨_, rfl, ?_⟩; replace HO_4 := Aside0.mk (Kd.R_below (by exact uR <| (Kd.R_mono (Kd.R_far (p := ⟨gb254, 1, none⟩) (Kd.R_types HO_4.out BK254.out (by decide)) (fun _ hk => hk.2) (.int .i64 t261)) (fun _ h_ => h_.1))) hb); have HO268 := Aside0.mk (Kd.R_lower ho0 (below_size bl)); replace BK250 := Aside0.mk (blk_below (g := gb250) (o := .cells #[.int .i64 0, .int .i64 0, .slice none 0 0] 37 (0, 0)) (by (with_reducible repeat (first | refine blk_drewN ?_ _ | refine blk_drew ?_ | refine blk_alloc ?_ _)); refine blk_far ?_ NB250_254.out _; exact uB <| BK250.out) hb); replace BK254 := Aside0.mk (blk_below (g := gb254) (o := .cells #[.int .i64 x255000_1, .int .i64 t261, .slice none 0 0] 37 (0, 0)) (by (with_reducible repeat (first | refine blk_drewN ?_ _ | refine blk_drew ?_ | refine blk_alloc ?_ _)); refine blk_put (cs := #[.int .i64 x255000_1, .int .i64 0, .slice none 0 0]) ?_ 1 _ rfl; exact uB <| BK254.out) hb); replace HB := Aside0.mk (below_step bl hb); (try clear hb); (try clear ho0); obtain ⟨Ao61, co61, eo61⟩ := Kd.R_slice HO268.out; subst eo61; obtain ⟨hcz62_0, hcz62_1, hcz62_2, hfz62_0, hfz62_1, hfz62_2⟩ := z3 BK254; obtain ⟨hcz63_0, hcz63_1, hcz63_2, hfz63_0, hfz63_1, hfz63_2⟩ := z3 BK250))
               refine bodyPost_ret (results_ct rfl _ _ gb250 37 #[.int .i64 x255000_1, .int .i64 t261, .slice Ao61 t265.length co61] (0, 0) _ rfl (by (with_reducible repeat (first | refine blk_drewN ?_ _ | refine blk_drew ?_ | refine blk_alloc ?_ _)); refine blk_put (cs := #[.int .i64 x255000_1, .int .i64 t261, .slice none 0 0]) ?_ 2 _ rfl; (with_reducible repeat (first | refine blk_drewN ?_ _ | refine blk_drew ?_ | refine blk_alloc ?_ _)); refine blk_put (cs := #[.int .i64 x255000_1, .int .i64 0, .slice none 0 0]) ?_ 1 _ rfl; (with_reducible repeat (first | refine blk_drewN ?_ _ | refine blk_drew ?_ | refine blk_alloc ?_ _)); refine blk_put (cs := #[.int .i64 0, .int .i64 0, .slice none 0 0]) ?_ 0 _ rfl; (with_reducible repeat (first | refine blk_drewN ?_ _ | refine blk_drew ?_ | refine blk_alloc ?_ _)); refine blk_far ?_ NB250_254.out _; exact uB <| BK250.out) Tryz.underlying37 rfl (by kernel_rfl)) rfl ?_
               exact ⟨_, re_, by exact uR <| Kd.R_mono (Kd.R_far (p := ⟨gb250, 2, none⟩) (Kd.R_far (p := ⟨gb250, 1, none⟩) (Kd.R_far (p := ⟨gb250, 0, none⟩) (Kd.R_far (p := ⟨gb254, 2, none⟩) (Kd.R_types (Kd.R_types HO268.out BK254.out (by decide)) BK250.out (by decide)) (fun _ hk => hk.1.2) (.slice Ao61 t265.length co61)) (fun _ hk => hk.2) (.int .i64 x255000_1)) (fun _ hk => hk.2) (.int .i64 t261)) (fun _ hk => hk.2) (.slice Ao61 t265.length co61)) (fun _ hk => trivial), bl⟩
              ·
               replace c57 := Bool.eq_false_iff.mpr c57
               subst c57
               rw [if_neg (show ¬ (false = true) by decide)] at H
               simp only [Option.some.injEq, Prod.mk.injEq] at H
               obtain ⟨rfl, rfl, rfl, rfl⟩ := H
               have hnb64 := NB254_250.out
               have hnc64 := NB250_254.out
               obtain ⟨hcz65_0, hcz65_1, hcz65_2, hfz65_0, hfz65_1, hfz65_2⟩ := z3 BK254
               have p264 : 0 ≤ (2 : Int) := (by omega)
               have q264 : 2 < (t251.length : Int) := od
               obtain ⟨ad264, e264, hx264_0⟩ := Kd.at_string (Kd.R_reads' HO_4.out).2.2 2 p264 q264
               obtain rfl : ad260 = ad264 := (by injection e264)
               (try simp only [show (2 : Int).toNat = 2 from rfl, Nat.reduceMul, Nat.reduceEqDiff, Go.Addr.add, ↓reduceIte] at hx264_0)
               have qi264 : (2 < t251.length) = True := eq_true (by omega)
               (try rw [show ((2 : Int)).toNat = 2 from rfl] at hx264_0)
               have hn264_0 : ad260.block ≠ gb254 := Kd.own_blk (Kd.R_ne HO_4.out BK254.out (by decide))
               replace hx264_0 := (cell_far (p := ⟨gb254, 1, none⟩) (by first | (rw [add_block]; exact hn264_0) | (show (Addr.add _ _).block ≠ _; rw [add_block]; exact hn264_0) | exact hn264_0) (.int .i64 t261)).trans hx264_0
               clear hn264_0
               replace p264 := eq_true p264
               replace q264 := eq_true q264
               go_wp2_with (first | (refine gL (some 85) rfl Tryz.func51 #[.string (rdOf ByteArray.empty t251 2)] ?_; (with_reducible refine (r26_bytes.calls kj50 (rdOf ByteArray.empty t251 2) t265 false _ A56.out).mono ?_); rintro e w66 ⟨v267, rfl, ho0, hb⟩; refine ⟨_, rfl, ?_⟩; replace HO_4 := Aside0.mk (Kd.R_below (by exact uR <| (Kd.R_mono (Kd.R_far (p := ⟨gb254, 1, none⟩) (Kd.R_types HO_4.out BK254.out (by decide)) (fun _ hk => hk.2) (.int .i64 t261)) (fun _ h_ => h_.1))) hb); have HO268 := Aside0.mk (Kd.R_lower ho0 (below_size bl)); replace BK250 := Aside0.mk (blk_below (g := gb250) (o := .cells #[.int .i64 0, .int .i64 0, .slice none 0 0] 37 (0, 0)) (by (with_reducible repeat (first | refine blk_drewN ?_ _ | refine blk_drew ?_ | refine blk_alloc ?_ _)); refine blk_far ?_ NB250_254.out _; exact uB <| BK250.out) hb); replace BK254 := Aside0.mk (blk_below (g := gb254) (o := .cells #[.int .i64 x255000_1, .int .i64 t261, .slice none 0 0] 37 (0, 0)) (by (with_reducible repeat (first | refine blk_drewN ?_ _ | refine blk_drew ?_ | refine blk_alloc ?_ _)); refine blk_put (cs := #[.int .i64 x255000_1, .int .i64 0, .slice none 0 0]) ?_ 1 _ rfl; exact uB <| BK254.out) hb); replace HB := Aside0.mk (below_step bl hb); (try clear hb); (try clear ho0); obtain ⟨hcz67_0, hcz67_1, hcz67_2, hfz67_0, hfz67_1, hfz67_2⟩ := z3 BK250))
               refine bodyPost_ret (results_ct rfl _ _ gb250 37 #[.int .i64 0, .int .i64 0, .slice none 0 0] (0, 0) _ rfl (by (with_reducible repeat (first | refine blk_drewN ?_ _ | refine blk_drew ?_ | refine blk_alloc ?_ _)); refine blk_put (cs := #[.int .i64 0, .int .i64 0, .slice none 0 0]) ?_ 2 _ rfl; (with_reducible repeat (first | refine blk_drewN ?_ _ | refine blk_drew ?_ | refine blk_alloc ?_ _)); refine blk_put (cs := #[.int .i64 0, .int .i64 0, .slice none 0 0]) ?_ 1 _ rfl; (with_reducible repeat (first | refine blk_drewN ?_ _ | refine blk_drew ?_ | refine blk_alloc ?_ _)); refine blk_put (cs := #[.int .i64 0, .int .i64 0, .slice none 0 0]) ?_ 0 _ rfl; exact uB <| BK250.out) Tryz.underlying37 rfl (by kernel_rfl)) rfl ?_
               exact ⟨_, re_, nl_, bl⟩
             ·
              rw [if_neg c54] at H
              have c54b0 : (x255000_1 == 1) = false := beq_eq_false_iff_ne.mpr c54
              have c54b1 : (x255000_1 != 1) = true := bne_iff_ne.mpr c54
              simp only [Option.some.injEq, Prod.mk.injEq] at H
              obtain ⟨rfl, rfl, rfl, rfl⟩ := H
              have hnb68 := NB254_250.out
              have hnc68 := NB250_254.out
              obtain ⟨hcz69_0, hcz69_1, hcz69_2, hfz69_0, hfz69_1, hfz69_2⟩ := z3 BK254
              obtain ⟨hcz70_0, hcz70_1, hcz70_2, hfz70_0, hfz70_1, hfz70_2⟩ := z3 BK250
              go_wp2
              refine bodyPost_ret (results_ct rfl _ _ gb250 37 #[.int .i64 x255000_1, .int .i64 t261, .slice none 0 0] (0, 0) _ rfl (by (with_reducible repeat (first | refine blk_drewN ?_ _ | refine blk_drew ?_ | refine blk_alloc ?_ _)); refine blk_put (cs := #[.int .i64 x255000_1, .int .i64 t261, .slice none 0 0]) ?_ 2 _ rfl; (with_reducible repeat (first | refine blk_drewN ?_ _ | refine blk_drew ?_ | refine blk_alloc ?_ _)); refine blk_put (cs := #[.int .i64 x255000_1, .int .i64 0, .slice none 0 0]) ?_ 1 _ rfl; (with_reducible repeat (first | refine blk_drewN ?_ _ | refine blk_drew ?_ | refine blk_alloc ?_ _)); refine blk_put (cs := #[.int .i64 0, .int .i64 0, .slice none 0 0]) ?_ 0 _ rfl; (with_reducible repeat (first | refine blk_drewN ?_ _ | refine blk_drew ?_ | refine blk_alloc ?_ _)); refine blk_far ?_ NB250_254.out _; exact uB <| BK250.out) Tryz.underlying37 rfl (by kernel_rfl)) rfl ?_
              exact ⟨_, re_, nl_, bl⟩
            ·
             rw [if_neg c53] at H
             have c53b0 : (x8_50 == 0) = false := beq_eq_false_iff_ne.mpr c53
             have c53b1 : (x8_50 != 0) = true := bne_iff_ne.mpr c53
             simp only [Option.some.injEq, Prod.mk.injEq] at H
             obtain ⟨rfl, rfl, rfl, rfl⟩ := H
             have hnb71 := NB250_254.out
             have hnc71 := NB254_250.out
             obtain ⟨hcz72_0, hcz72_1, hcz72_2, hfz72_0, hfz72_1, hfz72_2⟩ := z3 BK250
             go_wp2
             refine bodyPost_ret (results_ct rfl _ _ gb250 37 #[.int .i64 0, .int .i64 0, .slice none 0 0] (0, 0) _ rfl (by (with_reducible repeat (first | refine blk_drewN ?_ _ | refine blk_drew ?_ | refine blk_alloc ?_ _)); refine blk_put (cs := #[.int .i64 0, .int .i64 0, .slice none 0 0]) ?_ 2 _ rfl; (with_reducible repeat (first | refine blk_drewN ?_ _ | refine blk_drew ?_ | refine blk_alloc ?_ _)); refine blk_put (cs := #[.int .i64 0, .int .i64 0, .slice none 0 0]) ?_ 1 _ rfl; (with_reducible repeat (first | refine blk_drewN ?_ _ | refine blk_drew ?_ | refine blk_alloc ?_ _)); refine blk_put (cs := #[.int .i64 0, .int .i64 0, .slice none 0 0]) ?_ 0 _ rfl; exact uB <| BK250.out) Tryz.underlying37 rfl (by kernel_rfl)) rfl ?_
             exact ⟨_, re_, nl_, bl⟩
       ·
        rw [if_neg c42] at H
        exact absurd H (by simp)
mutual
def r26_Parse.l0 : Nat → ByteArray → List (S37) → Int → Option ((List (S37)) × Int × Int)
 | 0, _, _, _ => none
 | k + 1, x0, x5, x6 => if x6 < (x0.size : Int) then (if (x5.length : Int) = 2000 then (some (([] : List (S37)), 2001, 4)) else (r26_Parse.l1 k x0 x5 x6 x6)) else (some (x5, 0, 0))
def r26_Parse.j2 : Nat → ByteArray → List (S37) → Int → Int → Option ((List (S37)) × Int × Int)
 | 0, _, _, _, _ => none
 | k + 1, x0, x5, x6, x7 => if x7 = (x0.size : Int) then (some (([] : List (S37)), wrap64 ((x5.length : Int) + 1), 2)) else (if 0 ≤ x6 then (if x6 ≤ x7 then (if x7 ≤ (x0.size : Int) then ((r26_one.f k (x0.extract (x6 : Int).toNat (x7 : Int).toNat)).bind fun bt269 => (if bt269.2.2.2 = 0 then (if x5.length < 3518437208883 then (r26_Parse.l0 k x0 (x5 ++ [(⟨bt269.1, bt269.2.1, bt269.2.2.1⟩ : S37)]) (wrap64 (x7 + 1))) else (none)) else (some (([] : List (S37)), wrap64 ((x5.length : Int) + 1), bt269.2.2.2)))) else (none)) else (none)) else (none))
def r26_Parse.l1 : Nat → ByteArray → List (S37) → Int → Int → Option ((List (S37)) × Int × Int)
 | 0, _, _, _, _ => none
 | k + 1, x0, x5, x6, x7 => if x7 < (x0.size : Int) then (if 0 ≤ x7 then (if (bt x0 x7) = 10 then (r26_Parse.j2 k x0 x5 x6 x7) else (r26_Parse.l1 k x0 x5 x6 (wrap64 (x7 + 1)))) else (none)) else (r26_Parse.j2 k x0 x5 x6 x7)
end
def r26_Parse.f (k : Nat) (a0 : ByteArray) : Option ((List (S37)) × Int × Int) := r26_Parse.l0 k a0 ([] : List (S37)) 0
theorem r26_Parse.mono_l : ∀ k, (∀ y0 y1 y2, LeC (r26_Parse.l0 k y0 y1 y2) (r26_Parse.l0 (k + 1) y0 y1 y2)) ∧ (∀ y0 y1 y2 y3, LeC (r26_Parse.j2 k y0 y1 y2 y3) (r26_Parse.j2 (k + 1) y0 y1 y2 y3)) ∧ (∀ y0 y1 y2 y3, LeC (r26_Parse.l1 k y0 y1 y2 y3) (r26_Parse.l1 (k + 1) y0 y1 y2 y3))
 | 0 => ⟨fun _ _ _ => ⟨fun r h => by simp [r26_Parse.l0] at h⟩, fun _ _ _ _ => ⟨fun r h => by simp [r26_Parse.j2] at h⟩, fun _ _ _ _ => ⟨fun r h => by simp [r26_Parse.l1] at h⟩⟩
 | k + 1 => by obtain ⟨ih0, ih1, ih2⟩ := r26_Parse.mono_l k; exact ⟨fun _ _ _ => by unfold r26_Parse.l0; exact lm, fun _ _ _ _ => by unfold r26_Parse.j2; exact lm, fun _ _ _ _ => by unfold r26_Parse.l1; exact lm⟩
theorem r26_Parse.mono : ∀ a0 k, LeO (r26_Parse.f k a0) (r26_Parse.f (k + 1) a0) := by
 intro a0 k
 obtain ⟨ih0, ih1, ih2⟩ := r26_Parse.mono_l k
 unfold r26_Parse.f
 exact lo
instance r26_Parse.mI {a0 k} : LeC (r26_Parse.f k a0) (r26_Parse.f (k + 1) a0) := ⟨r26_Parse.mono _ _⟩
theorem r26_Parse.calls (k : Nat) (a0 : ByteArray) (r1 : List (S37)) (r2 : Int) (r3 : Int) (w : World) (h : r26_Parse.f k a0 = some (r1, r2, r3)) :
 Calls Tryz.prog 14 #[.string a0] w fun e w' => ∃ v0_ : Value, e = .returned (.tuple #[v0_, .int .i64 r2, .int .i64 r3]) ∧ Kd.S k37 37 w' w.heap.size (fun _ => True) v0_ r1 ∧ Below w.heap.size w w' := by
 have hu37 := Tryz.underlying37
 have HB := Aside0.mk (Below.refl w.heap.size w)
 have H : (r26_Parse.l0 k a0 ([] : List (S37)) 0) = some (r1, r2, r3) := h
 clear h
 have H' := Aside0.mk H
 clear H
 go_enter Tryz.func14, Tryz.ntmps14
 go_wp2
 go_loopg [5, 6] k (fun kq v5 v6 w' => ∃ (x5_1 : List (S37)) (x6_1 : Int), v6 = .int .i64 x6_1 ∧ Aside0 (r26_Parse.l0 kq a0 x5_1 x6_1 = some (r1, r2, r3)) ∧ Aside0 (kq ≤ k) ∧ Aside0 (Kd.S k37 37 w' w.heap.size (fun _ => True) v5 x5_1) ∧ Aside0 (Below w.heap.size w w'))
 case atStart => exact ⟨(([] : List (S37))), (0), rs_, H', ⟨Nat.le_refl _⟩, ⟨by first | exact Kd.S_nil _ _ _ _ _ | exact Kd.N_nil _ _ _ _ _ | exact Kd.V_nil _ _ _ _ _ | exact Kd.Q_nil _ _ _ _ _ | exact Kd.R_nil _ _ _ _ _⟩, ⟨uW HB.out⟩⟩
 case round =>
  clear H'
  try clear c1
  obtain ⟨x5_1, x6_1, rfl, HA, HK1, HO_5, HB⟩ := hrel
  cases gk with
  | zero => exact absurd HA.out (by simp [r26_Parse.l0])
  | succ k1 =>
   have H := HA.out
   clear HA
   simp only [r26_Parse.l0] at H
   by_cases c2 : x6_1 < (a0.size : Int)
   ·
    rw [if_pos c2] at H
    have c2b0 : decide (x6_1 < (a0.size : Int)) = true := decide_eq_true c2
    clear c2
    by_cases c3 : (x5_1.length : Int) = 2000
    ·
     rw [if_pos c3] at H
     have c3b0 : ((x5_1.length : Int) == 2000) = true := beq_iff_eq.mpr c3
     have c3b1 : ((x5_1.length : Int) != 2000) = false := bne_eq_false_iff_eq.mpr c3
     clear c3
     simp only [Option.some.injEq, Prod.mk.injEq] at H
     obtain ⟨rfl, rfl, rfl⟩ := H
     obtain ⟨Ao4, co4, eo4⟩ := Kd.S_slice HO_5.out
     subst eo4
     go_wp2
     go_ret3
     exact ⟨_, re_, by first | exact Kd.S_nil _ _ _ _ _ | exact Kd.N_nil _ _ _ _ _ | exact Kd.V_nil _ _ _ _ _ | exact Kd.Q_nil _ _ _ _ _ | exact Kd.R_nil _ _ _ _ _, uW HB.out⟩
    ·
     rw [if_neg c3] at H
     have c3b0 : ((x5_1.length : Int) == 2000) = false := beq_eq_false_iff_ne.mpr c3
     have c3b1 : ((x5_1.length : Int) != 2000) = true := bne_iff_ne.mpr c3
     have HC5 := Aside0.mk H
     clear H
     obtain ⟨Ao6, co6, eo6⟩ := Kd.S_slice HO_5.out
     subst eo6
     go_upto_block 2 with (fail)
     go_cut [7] (fun v7 wc => ∃ (kq : Nat) (x7_4 : Int), v7 = .int .i64 x7_4 ∧ Aside0 (r26_Parse.j2 kq a0 x5_1 x6_1 x7_4 = some (r1, r2, r3)) ∧ Aside0 (kq ≤ k1) ∧ Aside0 (Kd.S k37 37 wc w.heap.size (fun _ => True) (.slice Ao6 x5_1.length co6) x5_1) ∧ Aside0 (Below w.heap.size w wc))
     case first =>
      have H := HC5.out
      clear HC5
      have H' := Aside0.mk H
      clear H
      go_wp2
      go_loopg [7] k1 (fun kq v7 w' => ∃ (x7_2 : Int), v7 = .int .i64 x7_2 ∧ Aside0 (r26_Parse.l1 kq a0 x5_1 x6_1 x7_2 = some (r1, r2, r3)) ∧ Aside0 (kq ≤ k1) ∧ Aside0 (Kd.S k37 37 w' w.heap.size (fun _ => True) (.slice Ao6 x5_1.length co6) x5_1) ∧ Aside0 (Below w.heap.size w w'))
      case atStart => exact ⟨(x6_1), rs_, H', ⟨Nat.le_refl _⟩, ⟨uS HO_5.out⟩, ⟨uW HB.out⟩⟩
      case round =>
       clear H'
       try clear c1
       try clear c2
       try clear c2b0
       try clear p2
       try clear c3
       try clear c3b0
       try clear c3b1
       obtain ⟨x7_2, rfl, HA, HK2, HO_5, HB⟩ := hrel
       cases gk with
       | zero => exact absurd HA.out (by simp [r26_Parse.l1])
       | succ k2 =>
        have H := HA.out
        clear HA
        simp only [r26_Parse.l1] at H
        by_cases c7 : x7_2 < (a0.size : Int)
        ·
         rw [if_pos c7] at H
         have c7b0 : decide (x7_2 < (a0.size : Int)) = true := decide_eq_true c7
         clear c7
         (first | rw [c7b0] | (simp only [i64_w, i32_w]; rw [c7b0]) | skip)
         obtain ⟨c8b0, H⟩ := gdd H
         by_cases c10 : (bt a0 x7_2) = 10
         ·
          rw [if_pos c10] at H
          have c10b0 : ((bt a0 x7_2) == 10) = true := beq_iff_eq.mpr c10
          have c10b1 : ((bt a0 x7_2) != 10) = false := bne_eq_false_iff_eq.mpr c10
          clear c10
          have H' := Aside0.mk H
          clear H
          have p9 : 0 ≤ (x7_2 : Int) := od
          have q9 : x7_2 < (a0.size : Int) := od
          have hx9 := bt_at a0 x7_2
          replace p9 := eq_true p9
          replace q9 := eq_true q9
          go_wp2
          go_meet
          case rel => exact ⟨_, (x7_2), rs_, H', ⟨by have := HK1.out; have := HK2.out; first | omega | exact Nat.le_refl _⟩, ⟨uS HO_5.out⟩, ⟨uW HB.out⟩⟩
         ·
          rw [if_neg c10] at H
          have c10b0 : ((bt a0 x7_2) == 10) = false := beq_eq_false_iff_ne.mpr c10
          have c10b1 : ((bt a0 x7_2) != 10) = true := bne_iff_ne.mpr c10
          have H' := Aside0.mk H
          clear H
          have p9 : 0 ≤ (x7_2 : Int) := od
          have q9 : x7_2 < (a0.size : Int) := od
          have hx9 := bt_at a0 x7_2
          replace p9 := eq_true p9
          replace q9 := eq_true q9
          go_wp2
          go_roundg k2
          case measure => have := HK1.out; have := HK2.out; omega
          case rel => exact ⟨(wrap64 (x7_2 + 1)), rs_, H', ⟨by have := HK1.out; have := HK2.out; omega⟩, ⟨uS HO_5.out⟩, ⟨uW HB.out⟩⟩
        ·
         rw [if_neg c7] at H
         have c7b0 : decide (x7_2 < (a0.size : Int)) = false := decide_eq_false c7
         clear c7
         (first | rw [c7b0] | (simp only [i64_w, i32_w]; rw [c7b0]) | skip)
         have H' := Aside0.mk H
         clear H
         go_wp2
         go_meet
         case rel => exact ⟨_, (x7_2), rs_, H', ⟨by have := HK1.out; have := HK2.out; first | omega | exact Nat.le_refl _⟩, ⟨uS HO_5.out⟩, ⟨uW HB.out⟩⟩
     case rest =>
      clear HC5
      try clear c1
      try clear c2
      try clear c2b0
      try clear p2
      try clear c3
      try clear c3b0
      try clear c3b1
      try clear p6
      try clear c7
      try clear c7b0
      try clear c8
      try clear c8b0
      try clear p9
      try clear q9
      try clear hx9
      try clear c10
      try clear c10b0
      try clear c10b1
      try clear p2
      try clear p9
      try clear q9
      obtain ⟨kq, x7_4, rfl, HA, HJ4, HO_5, HB⟩ := hcut
      cases kq with
      | zero => exact absurd HA.out (by simp [r26_Parse.j2])
      | succ kj4 =>
       have H := HA.out
       clear HA
       simp only [r26_Parse.j2] at H
       by_cases c11 : x7_4 = (a0.size : Int)
       ·
        rw [if_pos c11] at H
        have c11b0 : (x7_4 == (a0.size : Int)) = true := beq_iff_eq.mpr c11
        have c11b1 : (x7_4 != (a0.size : Int)) = false := bne_eq_false_iff_eq.mpr c11
        clear c11
        simp only [Option.some.injEq, Prod.mk.injEq] at H
        obtain ⟨rfl, rfl, rfl⟩ := H
        go_wp2
        go_ret3
        exact ⟨_, re_, by first | exact Kd.S_nil _ _ _ _ _ | exact Kd.N_nil _ _ _ _ _ | exact Kd.V_nil _ _ _ _ _ | exact Kd.Q_nil _ _ _ _ _ | exact Kd.R_nil _ _ _ _ _, uW HB.out⟩
       ·
        rw [if_neg c11] at H
        have c11b0 : (x7_4 == (a0.size : Int)) = false := beq_eq_false_iff_ne.mpr c11
        have c11b1 : (x7_4 != (a0.size : Int)) = true := bne_iff_ne.mpr c11
        obtain ⟨c12, H⟩ := gd H
        have c12b0 := eq_true c12
        have c12b1 : decide (0 ≤ x6_1) = true := decide_eq_true c12
        clear c12
        obtain ⟨c13, H⟩ := gd H
        have c13b0 := eq_true c13
        have c13b1 : decide (x6_1 ≤ x7_4) = true := decide_eq_true c13
        clear c13
        obtain ⟨c14, H⟩ := gd H
        have c14b0 := eq_true c14
        have c14b1 : decide (x7_4 ≤ (a0.size : Int)) = true := decide_eq_true c14
        clear c14
        obtain ⟨⟨t269, t270, t271, t274⟩, A15, H⟩ := bs H
        try dsimp only at H
        by_cases c16 : t274 = 0
        ·
         rw [if_pos c16] at H
         have c16b0 : (t274 == 0) = true := beq_iff_eq.mpr c16
         have c16b1 : (t274 != 0) = false := bne_eq_false_iff_eq.mpr c16
         clear c16
         obtain ⟨c17, H⟩ := gd H
         have LMc17 := Aside0.mk c17
         clear c17
         obtain ⟨y276, hy276⟩ : ∃ y_ : List (S37), y_ = (x5_1 ++ [(⟨t269, t270, t271⟩ : S37)]) := ⟨_, rfl⟩
         replace H : (r26_Parse.l0 kj4 a0 y276 (wrap64 (x7_4 + 1))) = some (r1, r2, r3) := by first | (rw [hy276]; with_reducible exact H) | (have H2_ := (Option.bind_some _ _).symm.trans H; rw [hy276]; with_reducible exact H2_) | (have H2_ := (Option.bind_some _ _).symm.trans H; with_reducible exact H2_) | with_reducible exact H | (rw [hy276]; exact H) | exact H
         have Ny276 := Aside0.mk hy276
         clear hy276
         have H' := Aside0.mk H
         clear H
         go_wp2_with (first | (refine gL (some 42) rfl Tryz.func35 #[.string (a0.extract (x6_1 : Int).toNat (x7_4 : Int).toNat)] ?_; (with_reducible refine (r26_one.calls kj4 (a0.extract (x6_1 : Int).toNat (x7_4 : Int).toNat) t269 t270 t271 t274 _ A15.out).mono ?_); rintro e w18 ⟨v272, rfl, ho0, hb⟩; refine ⟨_, rfl, ?_⟩; replace HO_5 := Aside0.mk (Kd.S_elder' (uS HO_5.out) (Kd.R_base ho0) hb); have HO273 := Aside0.mk (Kd.R_lower ho0 (below_size (uW HB.out))); replace HB := cW HB hb; (try clear hb); (try clear ho0)) | ((with_reducible refine gate_dst (N := 8) rfl ?_); refine bx (N := 8) #[.int .i64 0, .int .i64 0, .slice none 0 0] 37 ?_; intro gb275 hg w19 hbox hb; replace HO_5 := Aside0.mk (Kd.S_below (Kd.S_elderB (uS HO_5.out) gb275 (Nat.le_of_eq hg.symm)) hb); replace HO273 := cR HO273 hb; have BK275 := Aside0.mk (hbox); have GW275 := gw hg (uW HB.out); have GE275 := GW275; replace HB := cW HB hb; clear hb hbox hg; obtain ⟨hcz20_0, hcz20_1, hcz20_2, hfz20_0, hfz20_1, hfz20_2⟩ := z3 BK275; obtain ⟨Ao21, co21, eo21⟩ := Kd.R_slice HO273.out; subst eo21) | ((with_reducible refine gate_store (t := 37) (p := 8) rfl ?_); refine store_event (t := 37) (p := 8) (v := ?vo_w22) (w1 := (((w19.setCell ⟨gb275, 0, none⟩ (.int .i64 t269)).setCell ⟨gb275, 1, none⟩ (.int .i64 t270)).setCell ⟨gb275, 2, none⟩ (.slice Ao21 t271.length co21))) ?hg ?ho ?hn ?hr ?_; (case ho => rfl); (case hg => rfl); (case hn => rfl); (case hr => first | (go_simp; done) | (go_simp; rfl)); intro w22 hw; have n0_ : Aside0 (Kd.S k37 37 w22 w.heap.size (fun k_ => some k_ ≠ (.slice Ao21 t271.length co21 : Value).ownBlock ∧ k_ ≠ gb275) (.slice Ao6 x5_1.length co6) x5_1) := ⟨(by rw [hw]; exact (by exact uS <| Kd.S_mono (Kd.S_far (p := ⟨gb275, 2, none⟩) (Kd.S_far (p := ⟨gb275, 1, none⟩) (Kd.S_far (p := ⟨gb275, 0, none⟩) (Kd.S_mono HO_5.out (fun k_ hk => (⟨hk, hk.2⟩ : _ ∧ k_ ≠ gb275))) (fun _ hk => hk.2) (.int .i64 t269)) (fun _ hk => hk.2) (.int .i64 t270)) (fun _ hk => hk.2) (.slice Ao21 t271.length co21)) (fun _ hk => ⟨hk.1.1.2, hk.1.2⟩)))⟩; have n1_ : Aside0 (Kd.R (Kd.int .u8) 5 w22 w.heap.size (fun _ => True) (.slice Ao21 t271.length co21) t271) := ⟨(by rw [hw]; exact (by exact uR <| Kd.R_mono (Kd.R_far (p := ⟨gb275, 2, none⟩) (Kd.R_far (p := ⟨gb275, 1, none⟩) (Kd.R_far (p := ⟨gb275, 0, none⟩) (Kd.R_types HO273.out BK275.out (by decide)) (fun _ hk => hk.2) (.int .i64 t269)) (fun _ hk => hk.2) (.int .i64 t270)) (fun _ hk => hk.2) (.slice Ao21 t271.length co21)) (fun _ hk => trivial)))⟩; have n2_ : Aside0 (w22.heap[gb275]? = some (.cells #[.int .i64 t269, .int .i64 t270, .slice Ao21 t271.length co21] 37 (0, 0))) := ⟨(by rw [hw]; exact (by (with_reducible repeat (first | refine blk_drewN ?_ _ | refine blk_drew ?_ | refine blk_alloc ?_ _)); refine blk_put (cs := #[.int .i64 t269, .int .i64 t270, .slice none 0 0]) ?_ 2 _ rfl; (with_reducible repeat (first | refine blk_drewN ?_ _ | refine blk_drew ?_ | refine blk_alloc ?_ _)); refine blk_put (cs := #[.int .i64 t269, .int .i64 0, .slice none 0 0]) ?_ 1 _ rfl; (with_reducible repeat (first | refine blk_drewN ?_ _ | refine blk_drew ?_ | refine blk_alloc ?_ _)); refine blk_put (cs := #[.int .i64 0, .int .i64 0, .slice none 0 0]) ?_ 0 _ rfl; exact uB <| BK275.out))⟩; have n3_ : Aside0 (Below w.heap.size w w22) := ⟨(by rw [hw]; exact bl)⟩; clear hw; clear HO_5; clear HO273; clear BK275; clear HB; have HO_5 := n0_; have HO273 := n1_; have BK275 := n2_; have HB := n3_; clear n0_ n1_ n2_ n3_; obtain ⟨hcz23_0, hcz23_1, hcz23_2, hfz23_0, hfz23_1, hfz23_2⟩ := z3 BK275) | ((with_reducible refine gate_builtin (b := .append) (xs := #[.tmp 51, .tmp 53]) rfl ?_); at_builtin; refine Kd.S_append k37 (w0 := w) w.heap.size rfl (.tmp 51) (.tmp 53) 22 37 (.agg #[(.int .i64 0), (.int .i64 0), (.slice none 0 0)]) 40 rfl Tryz.underlying22 info37 rfl (by decide) (by omega) (.slice Ao6 x5_1.length co6) x5_1 (⟨t269, t270, t271⟩ : S37) [.int .i64 t269, .int .i64 t270, .slice Ao21 t271.length co21] (fun k_ => k_ ≠ gb275) (fun k_ => some k_ = (.slice Ao21 t271.length co21 : Value).ownBlock) rfl rfl ?aP (fun k_ hk_ => ((Kd.R_mono (ok' := fun k_ => ((fun k_ => k_ ≠ gb275)) k_ ∧ some k_ ≠ (.slice Ao6 x5_1.length co6 : Value).ownBlock) (Kd.R_types (Kd.R_apart' (HO273.out) (Kd.S_typed HO_5.out) (by decide)) BK275.out (by decide)) (fun k_ hk => ⟨hk.2, hk.1.2⟩))).1 k_ hk_.symm) ?aF ?aO ?aB ?aS ?aL ?_; (case aP => exact k37_mkM _ _ _ (⟨t269, t270, t271⟩ : S37) (Kd.R_mono (Kd.R_tight rfl (Kd.R_mono (ok' := fun k_ => ((fun k_ => k_ ≠ gb275)) k_ ∧ some k_ ≠ (.slice Ao6 x5_1.length co6 : Value).ownBlock) (Kd.R_types (Kd.R_apart' (HO273.out) (Kd.S_typed HO_5.out) (by decide)) BK275.out (by decide)) (fun k_ hk => ⟨hk.2, hk.1.2⟩))) (fun _ h_ => h_))); (case aB => exact bl); (case aF => exact (fun k_ hk => Kd.freshB (g := gb275) (o := .cells #[.int .i64 t269, .int .i64 t270, .slice Ao21 t271.length co21] 37 (0, 0)) (uB BK275.out) k_ hk)); (case aO => exact (by exact uS <| Kd.S_mono HO_5.out (fun k_ hk => ⟨hk.2, fun e_ => hk.1 e_⟩))); (case aS => exact (below_size bl)); (case aL => have := LMc17.out; omega); intro v277 w24 ho hb hg hat; rw [← Ny276.out] at ho; replace BK275 := Aside0.mk (blk_grown (g := gb275) (o := .cells #[.int .i64 t269, .int .i64 t270, .slice Ao21 t271.length co21] 37 (0, 0)) (uB BK275.out) hg (Kd.S_away HO_5.out (fun _ hk => hk.2))); replace HB := Aside0.mk (hb); have HO278 := Aside0.mk (ho); clear HO_5; clear HO273; clear ho hb hg hat))
         go_roundg kj4
         case measure => have := HK1.out; have := HJ4.out; omega
         case rel => exact ⟨(y276), (wrap64 (x7_4 + 1)), rs_, H', ⟨by have := HK1.out; have := HJ4.out; omega⟩, ⟨by exact uS <| Kd.S_mono HO278.out (fun _ hk => trivial)⟩, ⟨bl⟩⟩
        ·
         rw [if_neg c16] at H
         have c16b0 : (t274 == 0) = false := beq_eq_false_iff_ne.mpr c16
         have c16b1 : (t274 != 0) = true := bne_iff_ne.mpr c16
         simp only [Option.some.injEq, Prod.mk.injEq] at H
         obtain ⟨rfl, rfl, rfl⟩ := H
         go_wp2_with (first | (refine gL (some 42) rfl Tryz.func35 #[.string (a0.extract (x6_1 : Int).toNat (x7_4 : Int).toNat)] ?_; (with_reducible refine (r26_one.calls kj4 (a0.extract (x6_1 : Int).toNat (x7_4 : Int).toNat) t269 t270 t271 t274 _ A15.out).mono ?_); rintro e w25 ⟨v272, rfl, ho0, hb⟩; refine ⟨_, rfl, ?_⟩; replace HO_5 := Aside0.mk (Kd.S_elder' (uS HO_5.out) (Kd.R_base ho0) hb); have HO273 := Aside0.mk (Kd.R_lower ho0 (below_size (uW HB.out))); replace HB := cW HB hb; (try clear hb); (try clear ho0)) | ((with_reducible refine gate_dst (N := 8) rfl ?_); refine bx (N := 8) #[.int .i64 0, .int .i64 0, .slice none 0 0] 37 ?_; intro gb275 hg w26 hbox hb; replace HO_5 := Aside0.mk (Kd.S_below (Kd.S_elderB (uS HO_5.out) gb275 (Nat.le_of_eq hg.symm)) hb); replace HO273 := cR HO273 hb; have BK275 := Aside0.mk (hbox); have GW275 := gw hg (uW HB.out); have GE275 := GW275; replace HB := cW HB hb; clear hb hbox hg; obtain ⟨hcz27_0, hcz27_1, hcz27_2, hfz27_0, hfz27_1, hfz27_2⟩ := z3 BK275; obtain ⟨Ao28, co28, eo28⟩ := Kd.R_slice HO273.out; subst eo28))
         go_ret3
         exact ⟨_, re_, by first | exact Kd.S_nil _ _ _ _ _ | exact Kd.N_nil _ _ _ _ _ | exact Kd.V_nil _ _ _ _ _ | exact Kd.Q_nil _ _ _ _ _ | exact Kd.R_nil _ _ _ _ _, bl⟩
   ·
    rw [if_neg c2] at H
    have c2b0 : decide (x6_1 < (a0.size : Int)) = false := decide_eq_false c2
    clear c2
    simp only [Option.some.injEq, Prod.mk.injEq] at H
    obtain ⟨rfl, rfl, rfl⟩ := H
    go_wp2
    go_ret3
    exact ⟨_, re_, uS HO_5.out, uW HB.out⟩
def w26_ScriptParses.f (k : Nat) (a0 : ByteArray) : Option (Bool) := (w26_alive.f k).bind fun t279 => (if t279 = true then (if (a0.size : Int) > 20000 then (some true) else ((script_Parse.f k a0).bind fun bt280 => ((r26_Parse.f k a0).bind fun bt285 => ((r26_Same.f k bt280.1 bt285.1).bind fun t290 => (if t290 = true then (if bt280.2.1 = bt285.2.1 then (some (bt280.2.2 == bt285.2.2)) else (none)) else (none)))))) else (none))
theorem w26_ScriptParses.mono : ∀ a0 k, LeO (w26_ScriptParses.f k a0) (w26_ScriptParses.f (k + 1) a0) := by
 intro a0 k
 unfold w26_ScriptParses.f
 exact lo
instance w26_ScriptParses.mI {a0 k} : LeC (w26_ScriptParses.f k a0) (w26_ScriptParses.f (k + 1) a0) := ⟨w26_ScriptParses.mono _ _⟩
theorem w26_ScriptParses.calls (k : Nat) (a0 : ByteArray) (r : Bool) (w : World) (hL : LD w) (h : w26_ScriptParses.f k a0 = some r) :
 Calls Tryz.prog 4 #[.string a0] w fun e w' => e = .returned (.bool r) ∧ Below w.heap.size w w' := by
 have HL0 := Aside0.mk hL
 clear hL
 have HB := Aside0.mk (Below.refl w.heap.size w)
 have H : ((w26_alive.f k).bind fun t279 => (if t279 = true then (if (a0.size : Int) > 20000 then (some true) else ((script_Parse.f k a0).bind fun bt280 => ((r26_Parse.f k a0).bind fun bt285 => ((r26_Same.f k bt280.1 bt285.1).bind fun t290 => (if t290 = true then (if bt280.2.1 = bt285.2.1 then (some (bt280.2.2 == bt285.2.2)) else (none)) else (none)))))) else (none))) = some r := h
 clear h
 obtain ⟨t279, A2, H⟩ := bs H
 try dsimp only at H
 by_cases c3 : t279 = true
 ·
  subst c3
  rw [if_pos rfl] at H
  by_cases c4 : (a0.size : Int) > 20000
  ·
   rw [if_pos c4] at H
   have c4b0 : decide (20000 < (a0.size : Int)) = true := decide_eq_true c4
   have c4b1 : decide (20000 < a0.size) = true := decide_eq_true (by omega)
   clear c4
   obtain rfl := Option.some.inj H
   go_enter Tryz.func4, Tryz.ntmps4
   go_wp2_with (first | (refine gL (some 9) rfl Tryz.func5 #[] ?_; (with_reducible refine (w26_alive.calls (hL := ld) k  true _ A2.out).mono ?_); rintro e w5 ⟨rfl, hb⟩; refine ⟨_, rfl, ?_⟩; replace HB := cW HB hb; (try clear hb)))
   go_ret
   exact ⟨re_, uW HB.out⟩
  ·
   rw [if_neg c4] at H
   have c4b0 : decide (20000 < (a0.size : Int)) = false := decide_eq_false c4
   have c4b1 : decide (20000 < a0.size) = false := decide_eq_false (by omega)
   clear c4
   obtain ⟨⟨t280, t281, t282⟩, A6, H⟩ := bs H
   try dsimp only at H
   obtain ⟨⟨t285, t286, t287⟩, A7, H⟩ := bs H
   try dsimp only at H
   obtain ⟨t290, A8, H⟩ := bs H
   try dsimp only at H
   by_cases c9 : t290 = true
   ·
    subst c9
    rw [if_pos rfl] at H
    obtain ⟨c10, H⟩ := gd H
    have c10b0 : (t281 == t286) = true := beq_iff_eq.mpr c10
    have c10b1 : (t281 != t286) = false := bne_eq_false_iff_eq.mpr c10
    clear c10
    obtain rfl := Option.some.inj H
    go_enter Tryz.func4, Tryz.ntmps4
    go_wp2_with (first | (refine gL (some 9) rfl Tryz.func5 #[] ?_; (with_reducible refine (w26_alive.calls (hL := ld) k  true _ A2.out).mono ?_); rintro e w11 ⟨rfl, hb⟩; refine ⟨_, rfl, ?_⟩; replace HB := cW HB hb; (try clear hb)) | (refine gL (some 16) rfl Tryz.func13 #[.string a0] ?_; (with_reducible refine (script_Parse.calls (hL := ld) k a0 t280 t281 t282 _ A6.out).mono ?_); rintro e w12 ⟨v283, rfl, ho0, hb⟩; refine ⟨_, rfl, ?_⟩; have HO284 := Aside0.mk (Kd.S_lower ho0 (below_size (uW HB.out))); replace HB := cW HB hb; (try clear hb); (try clear ho0)) | (refine gL (some 22) rfl Tryz.func14 #[.string a0] ?_; (with_reducible refine (r26_Parse.calls k a0 t285 t286 t287 _ A7.out).mono ?_); rintro e w13 ⟨v288, rfl, ho0, hb⟩; refine ⟨_, rfl, ?_⟩; have HO289 := Aside0.mk (Kd.S_lower (Kd.S_new' ho0 (Kd.S_lt (uS HO284.out))) (below_size (uW HB.out))); replace HO284 := Aside0.mk (Kd.S_elder' (uS HO284.out) (Kd.S_base ho0) hb); replace HB := cW HB hb; (try clear hb); (try clear ho0); obtain ⟨Ao14, co14, eo14⟩ := Kd.S_slice HO284.out; subst eo14; obtain ⟨Ao15, co15, eo15⟩ := Kd.S_slice HO289.out; subst eo15) | (refine gL (some 28) rfl Tryz.func12 #[.slice Ao14 t280.length co14, .slice Ao15 t285.length co15] ?_; (with_reducible refine (r26_Same.calls k _ _ t280 _ _ t285 true _ ?side1 ?side2 ?side3 ?side4 A8.out).mono ?_); (case side1 => exact uC <| (Kd.S_reads' HO284.out).2.2); (case side2 => exact (Kd.S_reads' HO284.out).2.1); (case side3 => exact uC <| (Kd.S_reads' HO289.out).2.2); (case side4 => exact (Kd.S_reads' HO289.out).2.1); rintro e w' ⟨rfl, ⟨nd, rfl⟩⟩; refine ⟨_, rfl, ?_⟩))
    go_ret
    exact ⟨re_, uW HB.out⟩
   ·
    replace c9 := Bool.eq_false_iff.mpr c9
    subst c9
    rw [if_neg (show ¬ (false = true) by decide)] at H
    exact absurd H (by simp)
 ·
  replace c3 := Bool.eq_false_iff.mpr c3
  subst c3
  rw [if_neg (show ¬ (false = true) by decide)] at H
  exact absurd H (by simp)
def w26_ScriptParses.Pure : Prop := ∀ (a0 : ByteArray), (a0.size ≤ 140737488351232) → ∃ k, w26_ScriptParses.f k a0 = some true
theorem w26_ScriptParses.walk (P : w26_ScriptParses.Pure) (a0 : ByteArray) (w : World) (hL : LD w)  (q0 : a0.size ≤ 140737488351232) :
 Calls Tryz.prog 4 #[.string a0] w fun e w' => e = .returned (.bool true) ∧ Below w.heap.size w w' := by
 obtain ⟨k, h⟩ := P a0 q0
 refine (w26_ScriptParses.calls (hL := hL) k a0 true w h).mono ?_
 rintro e w' ⟨rfl, hd⟩
 exact ⟨rfl, hd⟩
end Go.Proofs.YtkplklfmhieoaaaGreatDoor.X
