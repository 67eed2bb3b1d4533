/- Printed by a program of this session's own: what functions of the program compute, and that the machine computes it. No condition of its own. -/
import Derived.Test.YtgcbejidponoaaaGreatDoorM3
import Derived.Test.YtgcbejidponoaaaGreatDoorM10
import Derived.Test.YtgcbejidponoaaaGreatDoorM11
namespace Go.Proofs.YtgcbejidponoaaaGreatDoor.X
open Go.RowKit Go.Proofs.YtgcbejidponoaaaGreatDoorW.PrintWords Go.Proofs.YtgcbejidponoaaaGreatDoorW.PrintLast Go.Proofs.YtgcbejidponoaaaGreatDoorW.PrintMore
attribute [local go_sem] max2_int min2_int max_two min_two max_three min_three max_four min_four
set_option linter.unusedVariables false
set_option linter.unusedSimpArgs false
set_option maxHeartbeats 8000000
set_option maxRecDepth 100000
theorem r01_Read.wtd {a : Int} (h0 : -9223372036854775808 ≤ a) (h1 : a ≤ 9223372036854775807) : wrap64 (Int.tdiv a 10) = Int.tdiv a 10 := by
 have e : Int.tdiv a 10 = if 0 ≤ a then a / 10 else -((-a) / 10) := by
  split
  ·
   rename_i h; exact Int.tdiv_eq_ediv_of_nonneg h
  ·
   rename_i h
   have h2 : Int.tdiv a 10 = -(Int.tdiv (-a) 10) := by rw [Int.neg_tdiv, Int.neg_neg]
   rw [h2, Int.tdiv_eq_ediv_of_nonneg (by omega)]
 rw [e]
 unfold wrap64
 split <;> omega
mutual
def r01_Read.j0 : Nat → ByteArray → ByteArray → Bool → Option (Int × Int)
 | 0, _, _, _ => none
 | k + 1, x0, x4, x17 => if x17 = true then (if 1 ≤ (x4.size : Int) then (r01_Read.j1 k x0 (x4.extract 1 x4.size)) else (none)) else (r01_Read.j1 k x0 x4)
def r01_Read.j1 : Nat → ByteArray → ByteArray → Option (Int × Int)
 | 0, _, _ => none
 | k + 1, x0, x4 => if (x4.size : Int) = 0 then (r01_Read.j2 k x0 x4 true) else (if 0 < (x4.size : Int) then (if (bt x4 0) = 48 then (r01_Read.j2 k x0 x4 (decide ((x0.size : Int) > 1))) else (r01_Read.j2 k x0 x4 false)) else (none))
def r01_Read.j2 : Nat → ByteArray → ByteArray → Bool → Option (Int × Int)
 | 0, _, _, _ => none
 | k + 1, x0, x4, x32 => if x32 = true then (some (0, 2)) else (r01_Read.l0 k x0 x4 0)
def r01_Read.l0 : Nat → ByteArray → ByteArray → Int → Option (Int × Int)
 | 0, _, _, _ => none
 | k + 1, x0, x4, x5 => if x5 < (x4.size : Int) then (if 0 ≤ x5 then (if (bt x4 x5) < 48 then (some (0, 2)) else (if (bt x4 x5) > 57 then (some (0, 2)) else (r01_Read.l0 k x0 x4 (wrap64 (x5 + 1))))) else (none)) else (r01_Read.l1 k x0 x4 0 0)
def r01_Read.l1 : Nat → ByteArray → ByteArray → Int → Int → Option (Int × Int)
 | 0, _, _, _, _ => none
 | k + 1, x0, x4, x6, x7 => if x7 < (x4.size : Int) then (if 0 ≤ x7 then (if x6 < (wrap64 (Int.tdiv ((-9223372036854775808) + (((bt x4 x7) - 48) % 256)) 10)) then (some (0, 3)) else (r01_Read.l1 k x0 x4 (wrap64 ((wrap64 (10 * x6)) - (((bt x4 x7) - 48) % 256))) (wrap64 (x7 + 1)))) else (none)) else (if (x4.size : Int) < (x0.size : Int) then (some (x6, 0)) else (if x6 = (-9223372036854775808) then (some (0, 3)) else (some (wrap64 (-x6), 0))))
end
def r01_Read.f (k : Nat) (a0 : ByteArray) : Option (Int × Int) := if (a0.size : Int) > 1 then (if 0 < (a0.size : Int) then (r01_Read.j0 k a0 a0 ((bt a0 0) == 45)) else (none)) else (r01_Read.j0 k a0 a0 false)
theorem r01_Read.mono_l : ∀ k, (∀ y0 y1 y2, LeC (r01_Read.j0 k y0 y1 y2) (r01_Read.j0 (k + 1) y0 y1 y2)) ∧ (∀ y0 y1, LeC (r01_Read.j1 k y0 y1) (r01_Read.j1 (k + 1) y0 y1)) ∧ (∀ y0 y1 y2, LeC (r01_Read.j2 k y0 y1 y2) (r01_Read.j2 (k + 1) y0 y1 y2)) ∧ (∀ y0 y1 y2, LeC (r01_Read.l0 k y0 y1 y2) (r01_Read.l0 (k + 1) y0 y1 y2)) ∧ (∀ y0 y1 y2 y3, LeC (r01_Read.l1 k y0 y1 y2 y3) (r01_Read.l1 (k + 1) y0 y1 y2 y3))
 | 0 => ⟨fun _ _ _ => ⟨fun r h => by simp [r01_Read.j0] at h⟩, fun _ _ => ⟨fun r h => by simp [r01_Read.j1] at h⟩, fun _ _ _ => ⟨fun r h => by simp [r01_Read.j2] at h⟩, fun _ _ _ => ⟨fun r h => by simp [r01_Read.l0] at h⟩, fun _ _ _ _ => ⟨fun r h => by simp [r01_Read.l1] at h⟩⟩
 | k + 1 => by obtain ⟨ih0, ih1, ih2, ih3, ih4⟩ := r01_Read.mono_l k; exact ⟨fun _ _ _ => by unfold r01_Read.j0; exact lm, fun _ _ => by unfold r01_Read.j1; exact lm, fun _ _ _ => by unfold r01_Read.j2; exact lm, fun _ _ _ => by unfold r01_Read.l0; exact lm, fun _ _ _ _ => by unfold r01_Read.l1; exact lm⟩
theorem r01_Read.mono : ∀ a0 k, LeO (r01_Read.f k a0) (r01_Read.f (k + 1) a0) := by
 intro a0 k
 obtain ⟨ih0, ih1, ih2, ih3, ih4⟩ := r01_Read.mono_l k
 unfold r01_Read.f
 exact lo
instance r01_Read.mI {a0 k} : LeC (r01_Read.f k a0) (r01_Read.f (k + 1) a0) := ⟨r01_Read.mono _ _⟩
theorem r01_Read.calls (k : Nat) (a0 : ByteArray) (r1 : Int) (r2 : Int) (w : World) (h : r01_Read.f k a0 = some (r1, r2)) :
 Calls Tryz.prog 60 #[.string a0] w fun e w' => e = .returned (.tuple #[.int .i64 r1, .int .i64 r2]) ∧ Drawn0 w w' := by
 have H : (if (a0.size : Int) > 1 then (if 0 < (a0.size : Int) then (r01_Read.j0 k a0 a0 ((bt a0 0) == 45)) else (none)) else (r01_Read.j0 k a0 a0 false)) = some (r1, r2) := h
 clear h
 have HC2 := Aside0.mk H
 clear H
 go_enter Tryz.func60, Tryz.ntmps60
 go_upto_region 2 with (fail)
 go_cut [17] (fun v17 wc => ∃ (kq : Nat) (x17_1 : Bool), v17 = .bool x17_1 ∧ Aside0 (r01_Read.j0 kq a0 a0 x17_1 = some (r1, r2)) ∧ Aside0 (kq ≤ k) ∧ Drawn0 w wc)
 case first =>
  have H := HC2.out
  clear HC2
  by_cases c3 : (a0.size : Int) > 1
  ·
   rw [if_pos c3] at H
   have c3b0 : decide (1 < (a0.size : Int)) = true := decide_eq_true c3
   have c3b1 : decide (1 < a0.size) = true := decide_eq_true (by omega)
   clear c3
   (first | rw [c3b0] | (simp only [i64_w, i32_w]; rw [c3b0]) | skip)
   obtain ⟨c4, H⟩ := gd H
   have c4b0 : decide (0 < (a0.size : Int)) = true := decide_eq_true c4
   have c4b1 : decide (0 < a0.size) = true := decide_eq_true (by omega)
   clear c4
   have H' := Aside0.mk H
   clear H
   have p5 : 0 ≤ (0 : Int) := (by omega)
   have q5 : 0 < a0.size := (by have : (0 : Int) < (a0.size : Int) := od; omega)
   have hx5 : ∀ h : 0 < a0.size, ((a0[0]'h).toNat : Int) = bt a0 0 := bt_at a0 0
   clear p5
   have qi5 : (0 < (a0.size : Int)) = True := eq_true (od)
   replace q5 := eq_true q5
   go_wp2
   go_meet
   case rel => exact ⟨_, (((bt a0 0) == 45)), rs_, H', ⟨by first | omega | exact Nat.le_refl _⟩, dr_⟩
  ·
   rw [if_neg c3] at H
   have c3b0 : decide (1 < (a0.size : Int)) = false := decide_eq_false c3
   have c3b1 : decide (1 < a0.size) = false := decide_eq_false (by omega)
   clear c3
   (first | rw [c3b0] | (simp only [i64_w, i32_w]; rw [c3b0]) | skip)
   have H' := Aside0.mk H
   clear H
   go_wp2
   go_meet
   case rel => exact ⟨_, (false), rs_, H', ⟨by first | omega | exact Nat.le_refl _⟩, dr_⟩
 case rest =>
  clear HC2
  try clear p2
  try clear c3
  try clear c3b0
  try clear c3b1
  try clear c4
  try clear c4b0
  try clear c4b1
  try clear p5
  try clear q5
  try clear hx5
  try clear qi5
  try clear p5
  try clear q5
  obtain ⟨kq, x17_1, rfl, HA, HJ1, ⟨mc1, rfl⟩⟩ := hcut
  cases kq with
  | zero => exact absurd HA.out (by simp [r01_Read.j0])
  | succ kj1 =>
   have H := HA.out
   clear HA
   simp only [r01_Read.j0] at H
   have HC6 := Aside0.mk H
   clear H
   go_upto_if 17 with (fail)
   go_cut [4] (fun v4 wc => ∃ (kq : Nat) (x4_5 : ByteArray), v4 = .string x4_5 ∧ Aside0 (r01_Read.j1 kq a0 x4_5 = some (r1, r2)) ∧ Aside0 (kq ≤ kj1) ∧ Drawn0 w wc)
   case first =>
    have H := HC6.out
    clear HC6
    by_cases c7 : x17_1 = true
    ·
     subst c7
     rw [if_pos rfl] at H
     obtain ⟨c8, H⟩ := gd H
     have c8b0 := eq_true c8
     have c8b1 : decide (1 ≤ (a0.size : Int)) = true := decide_eq_true c8
     clear c8
     have H' := Aside0.mk H
     clear H
     go_wp2
     go_meet
     case rel => exact ⟨_, (a0.extract 1 a0.size), rs_, H', ⟨by have := HJ1.out; first | omega | exact Nat.le_refl _⟩, dr_⟩
    ·
     replace c7 := Bool.eq_false_iff.mpr c7
     subst c7
     rw [if_neg (show ¬ (false = true) by decide)] at H
     have H' := Aside0.mk H
     clear H
     go_wp2
     go_meet
     case rel => exact ⟨_, (a0), rs_, H', ⟨by have := HJ1.out; first | omega | exact Nat.le_refl _⟩, dr_⟩
   case rest =>
    clear HC6
    try clear c1
    try clear p2
    try clear c3
    try clear c3b0
    try clear c3b1
    try clear c4
    try clear c4b0
    try clear c4b1
    try clear p5
    try clear q5
    try clear hx5
    try clear qi5
    try clear c6
    try clear c7
    try clear c8
    try clear c8b0
    try clear c8b1
    try clear p2
    try clear p5
    try clear q5
    obtain ⟨kq, x4_5, rfl, HA, HJ5, ⟨mc5, rfl⟩⟩ := hcut
    cases kq with
    | zero => exact absurd HA.out (by simp [r01_Read.j1])
    | succ kj5 =>
     have H := HA.out
     clear HA
     simp only [r01_Read.j1] at H
     have HC9 := Aside0.mk H
     clear H
     go_upto_region 4 with (fail)
     go_cut [32] (fun v32 wc => ∃ (kq : Nat) (x32_8 : Bool), v32 = .bool x32_8 ∧ Aside0 (r01_Read.j2 kq a0 x4_5 x32_8 = some (r1, r2)) ∧ Aside0 (kq ≤ kj5) ∧ Drawn0 w wc)
     case first =>
      have H := HC9.out
      clear HC9
      by_cases c10 : (x4_5.size : Int) = 0
      ·
       rw [if_pos c10] at H
       have c10b0 : ((x4_5.size : Int) == 0) = true := beq_iff_eq.mpr c10
       have c10b1 : ((x4_5.size : Int) != 0) = false := bne_eq_false_iff_eq.mpr c10
       clear c10
       (first | rw [c10b0] | (simp only [i64_w, i32_w]; rw [c10b0]) | skip)
       have H' := Aside0.mk H
       clear H
       go_wp2
       go_meet
       case rel => exact ⟨_, (true), rs_, H', ⟨by have := HJ1.out; have := HJ5.out; first | omega | exact Nat.le_refl _⟩, dr_⟩
      ·
       rw [if_neg c10] at H
       have c10b0 : ((x4_5.size : Int) == 0) = false := beq_eq_false_iff_ne.mpr c10
       have c10b1 : ((x4_5.size : Int) != 0) = true := bne_iff_ne.mpr c10
       (first | rw [c10b0] | (simp only [i64_w, i32_w]; rw [c10b0]) | skip)
       obtain ⟨c11, H⟩ := gd H
       have c11b0 : decide (0 < (x4_5.size : Int)) = true := decide_eq_true c11
       have c11b1 : decide (0 < x4_5.size) = true := decide_eq_true (by omega)
       clear c11
       by_cases c13 : (bt x4_5 0) = 48
       ·
        rw [if_pos c13] at H
        have c13b0 : ((bt x4_5 0) == 48) = true := beq_iff_eq.mpr c13
        have c13b1 : ((bt x4_5 0) != 48) = false := bne_eq_false_iff_eq.mpr c13
        clear c13
        have H' := Aside0.mk H
        clear H
        have p12 : 0 ≤ (0 : Int) := (by omega)
        have q12 : 0 < x4_5.size := (by have : (0 : Int) < (x4_5.size : Int) := od; omega)
        have hx12 : ∀ h : 0 < x4_5.size, ((x4_5[0]'h).toNat : Int) = bt x4_5 0 := bt_at x4_5 0
        clear p12
        have qi12 : (0 < (x4_5.size : Int)) = True := eq_true (od)
        replace q12 := eq_true q12
        go_wp2
        go_meet
        case rel => exact ⟨_, (decide ((a0.size : Int) > 1)), rs_, H', ⟨by have := HJ1.out; have := HJ5.out; first | omega | exact Nat.le_refl _⟩, dr_⟩
       ·
        rw [if_neg c13] at H
        have c13b0 : ((bt x4_5 0) == 48) = false := beq_eq_false_iff_ne.mpr c13
        have c13b1 : ((bt x4_5 0) != 48) = true := bne_iff_ne.mpr c13
        have H' := Aside0.mk H
        clear H
        have p12 : 0 ≤ (0 : Int) := (by omega)
        have q12 : 0 < x4_5.size := (by have : (0 : Int) < (x4_5.size : Int) := od; omega)
        have hx12 : ∀ h : 0 < x4_5.size, ((x4_5[0]'h).toNat : Int) = bt x4_5 0 := bt_at x4_5 0
        clear p12
        have qi12 : (0 < (x4_5.size : Int)) = True := eq_true (od)
        replace q12 := eq_true q12
        go_wp2
        go_meet
        case rel => exact ⟨_, (false), rs_, H', ⟨by have := HJ1.out; have := HJ5.out; first | omega | exact Nat.le_refl _⟩, dr_⟩
     case rest =>
      clear HC9
      try clear c1
      try clear p1
      try clear q1
      try clear hx1
      try clear qi1
      try clear p2
      try clear c3
      try clear c3b0
      try clear c3b1
      try clear c4
      try clear c4b0
      try clear c4b1
      try clear c5
      try clear p5
      try clear q5
      try clear hx5
      try clear qi5
      try clear c6
      try clear c7
      try clear c8
      try clear c8b0
      try clear c8b1
      try clear c10
      try clear c10b0
      try clear c10b1
      try clear c11
      try clear c11b0
      try clear c11b1
      try clear p12
      try clear q12
      try clear hx12
      try clear qi12
      try clear c13
      try clear c13b0
      try clear c13b1
      try clear p12
      try clear p2
      try clear p5
      try clear q12
      try clear q5
      obtain ⟨kq, x32_8, rfl, HA, HJ8, ⟨mc8, rfl⟩⟩ := hcut
      cases kq with
      | zero => exact absurd HA.out (by simp [r01_Read.j2])
      | succ kj8 =>
       have H := HA.out
       clear HA
       simp only [r01_Read.j2] at H
       by_cases c14 : x32_8 = true
       ·
        subst c14
        rw [if_pos rfl] at H
        simp only [Option.some.injEq, Prod.mk.injEq] at H
        obtain ⟨rfl, rfl⟩ := H
        go_wp2
        go_ret2
        exact ⟨rs_, dr_⟩
       ·
        replace c14 := Bool.eq_false_iff.mpr c14
        subst c14
        rw [if_neg (show ¬ (false = true) by decide)] at H
        have H' := Aside0.mk H
        clear H
        go_wp2
        go_loopg [5] kj8 (fun kq v5 w' => ∃ (x5_4 : Int), v5 = .int .i64 x5_4 ∧ Aside0 (r01_Read.l0 kq a0 x4_5 x5_4 = some (r1, r2)) ∧ Aside0 (kq ≤ kj8) ∧ Drawn0 w w')
        case atStart => exact ⟨(0), rs_, H', ⟨Nat.le_refl _⟩, dr_⟩
        case round =>
         clear H'
         try clear c1
         try clear p1
         try clear q1
         try clear hx1
         try clear qi1
         try clear p2
         try clear c3
         try clear c3b0
         try clear c3b1
         try clear c4
         try clear c4b0
         try clear c4b1
         try clear c5
         try clear p5
         try clear q5
         try clear hx5
         try clear qi5
         try clear c6
         try clear c7
         try clear c8
         try clear c8b0
         try clear c8b1
         try clear c10
         try clear c10b0
         try clear c10b1
         try clear c11
         try clear c11b0
         try clear c11b1
         try clear p12
         try clear q12
         try clear hx12
         try clear qi12
         try clear c13
         try clear c13b0
         try clear c13b1
         try clear c14
         try clear p1
         try clear p12
         try clear p2
         try clear p5
         try clear q1
         try clear q12
         try clear q5
         obtain ⟨x5_4, rfl, HA, HK4, ⟨m4, rfl⟩⟩ := hrel
         cases gk with
         | zero => exact absurd HA.out (by simp [r01_Read.l0])
         | succ k4 =>
          have H := HA.out
          clear HA
          simp only [r01_Read.l0] at H
          by_cases c15 : x5_4 < (x4_5.size : Int)
          ·
           rw [if_pos c15] at H
           have c15b0 : decide (x5_4 < (x4_5.size : Int)) = true := decide_eq_true c15
           clear c15
           obtain ⟨c16b0, H⟩ := gdd H
           by_cases c18 : (bt x4_5 x5_4) < 48
           ·
            rw [if_pos c18] at H
            have c18b0 : decide ((bt x4_5 x5_4) < 48) = true := decide_eq_true c18
            clear c18
            simp only [Option.some.injEq, Prod.mk.injEq] at H
            obtain ⟨rfl, rfl⟩ := H
            have p17 : 0 ≤ (x5_4 : Int) := od
            have q17 : x5_4 < (x4_5.size : Int) := od
            have hx17 := bt_at x4_5 x5_4
            replace p17 := eq_true p17
            replace q17 := eq_true q17
            go_wp2
            go_ret2
            exact ⟨rs_, dr_⟩
           ·
            rw [if_neg c18] at H
            have c18b0 : decide ((bt x4_5 x5_4) < 48) = false := decide_eq_false c18
            clear c18
            by_cases c20 : (bt x4_5 x5_4) > 57
            ·
             rw [if_pos c20] at H
             have c20b0 : decide (57 < (bt x4_5 x5_4)) = true := decide_eq_true c20
             clear c20
             simp only [Option.some.injEq, Prod.mk.injEq] at H
             obtain ⟨rfl, rfl⟩ := H
             have p17 : 0 ≤ (x5_4 : Int) := od
             have q17 : x5_4 < (x4_5.size : Int) := od
             have hx17 := bt_at x4_5 x5_4
             replace p17 := eq_true p17
             replace q17 := eq_true q17
             have p19 : 0 ≤ (x5_4 : Int) := od
             have q19 : x5_4 < (x4_5.size : Int) := od
             have hx19 := bt_at x4_5 x5_4
             replace p19 := eq_true p19
             replace q19 := eq_true q19
             go_wp2
             go_ret2
             exact ⟨rs_, dr_⟩
            ·
             rw [if_neg c20] at H
             have c20b0 : decide (57 < (bt x4_5 x5_4)) = false := decide_eq_false c20
             clear c20
             have H' := Aside0.mk H
             clear H
             have p17 : 0 ≤ (x5_4 : Int) := od
             have q17 : x5_4 < (x4_5.size : Int) := od
             have hx17 := bt_at x4_5 x5_4
             replace p17 := eq_true p17
             replace q17 := eq_true q17
             have p19 : 0 ≤ (x5_4 : Int) := od
             have q19 : x5_4 < (x4_5.size : Int) := od
             have hx19 := bt_at x4_5 x5_4
             replace p19 := eq_true p19
             replace q19 := eq_true q19
             go_wp2
             go_roundg k4
             case measure => have := HJ1.out; have := HJ5.out; have := HJ8.out; have := HK4.out; omega
             case rel => exact ⟨(wrap64 (x5_4 + 1)), rs_, H', ⟨by have := HJ1.out; have := HJ5.out; have := HJ8.out; have := HK4.out; omega⟩, dr_⟩
          ·
           rw [if_neg c15] at H
           have c15b0 : decide (x5_4 < (x4_5.size : Int)) = false := decide_eq_false c15
           clear c15
           have H' := Aside0.mk H
           clear H
           go_wp2
           go_loopg [6, 7] k4 (fun kq v6 v7 w' => ∃ (x6_5 : Int) (x7_5 : Int), v6 = .int .i64 x6_5 ∧ v7 = .int .i64 x7_5 ∧ Aside0 (r01_Read.l1 kq a0 x4_5 x6_5 x7_5 = some (r1, r2)) ∧ Aside0 (kq ≤ k4) ∧ Drawn0 w w')
           case atStart => exact ⟨(0), (0), rs_, rs_, H', ⟨Nat.le_refl _⟩, dr_⟩
           case round =>
            clear H'
            try clear c1
            try clear p1
            try clear q1
            try clear hx1
            try clear qi1
            try clear c2
            try clear p2
            try clear c3
            try clear c3b0
            try clear c3b1
            try clear c4
            try clear c4b0
            try clear c4b1
            try clear c5
            try clear p5
            try clear q5
            try clear hx5
            try clear qi5
            try clear c6
            try clear p6
            try clear c7
            try clear c8
            try clear c8b0
            try clear c8b1
            try clear c10
            try clear c10b0
            try clear c10b1
            try clear c11
            try clear c11b0
            try clear c11b1
            try clear p12
            try clear q12
            try clear hx12
            try clear qi12
            try clear c13
            try clear c13b0
            try clear c13b1
            try clear c14
            try clear c15
            try clear c15b0
            try clear c16
            try clear c16b0
            try clear p17
            try clear q17
            try clear hx17
            try clear c18
            try clear c18b0
            try clear p19
            try clear q19
            try clear hx19
            try clear c20
            try clear c20b0
            try clear p1
            try clear p12
            try clear p17
            try clear p19
            try clear p2
            try clear p5
            try clear q1
            try clear q12
            try clear q17
            try clear q19
            try clear q5
            obtain ⟨x6_5, x7_5, rfl, rfl, HA, HK5, ⟨m5, rfl⟩⟩ := hrel
            cases gk with
            | zero => exact absurd HA.out (by simp [r01_Read.l1])
            | succ k5 =>
             have H := HA.out
             clear HA
             simp only [r01_Read.l1] at H
             by_cases c21 : x7_5 < (x4_5.size : Int)
             ·
              rw [if_pos c21] at H
              have c21b0 : decide (x7_5 < (x4_5.size : Int)) = true := decide_eq_true c21
              clear c21
              obtain ⟨c22b0, H⟩ := gdd H
              by_cases c24 : x6_5 < (wrap64 (Int.tdiv ((-9223372036854775808) + (((bt x4_5 x7_5) - 48) % 256)) 10))
              ·
               rw [if_pos c24] at H
               have c24b0 : decide (x6_5 < (wrap64 (Int.tdiv ((-9223372036854775808) + (((bt x4_5 x7_5) - 48) % 256)) 10))) = true := decide_eq_true c24
               have c24b7 : decide (x6_5 < Int.tdiv ((-9223372036854775808) + (((bt x4_5 x7_5) - 48) % 256)) 10) = true := by rw [← r01_Read.wtd (a := ((-9223372036854775808) + (((bt x4_5 x7_5) - 48) % 256))) (by omega) (by omega)]; exact c24b0
               clear c24
               simp only [Option.some.injEq, Prod.mk.injEq] at H
               obtain ⟨rfl, rfl⟩ := H
               have p23 : 0 ≤ (x7_5 : Int) := od
               have q23 : x7_5 < (x4_5.size : Int) := od
               have hx23 := bt_at x4_5 x7_5
               replace p23 := eq_true p23
               replace q23 := eq_true q23
               go_wp2
               go_ret2
               exact ⟨rs_, dr_⟩
              ·
               rw [if_neg c24] at H
               have c24b0 : decide (x6_5 < (wrap64 (Int.tdiv ((-9223372036854775808) + (((bt x4_5 x7_5) - 48) % 256)) 10))) = false := decide_eq_false c24
               have c24b7 : decide (x6_5 < Int.tdiv ((-9223372036854775808) + (((bt x4_5 x7_5) - 48) % 256)) 10) = false := by rw [← r01_Read.wtd (a := ((-9223372036854775808) + (((bt x4_5 x7_5) - 48) % 256))) (by omega) (by omega)]; exact c24b0
               clear c24
               have H' := Aside0.mk H
               clear H
               have p23 : 0 ≤ (x7_5 : Int) := od
               have q23 : x7_5 < (x4_5.size : Int) := od
               have hx23 := bt_at x4_5 x7_5
               replace p23 := eq_true p23
               replace q23 := eq_true q23
               go_wp2
               go_roundg k5
               case measure => have := HJ1.out; have := HJ5.out; have := HJ8.out; have := HK4.out; have := HK5.out; omega
               case rel => exact ⟨(wrap64 ((wrap64 (10 * x6_5)) - (((bt x4_5 x7_5) - 48) % 256))), (wrap64 (x7_5 + 1)), rs_, rs_, H', ⟨by have := HJ1.out; have := HJ5.out; have := HJ8.out; have := HK4.out; have := HK5.out; omega⟩, dr_⟩
             ·
              rw [if_neg c21] at H
              have c21b0 : decide (x7_5 < (x4_5.size : Int)) = false := decide_eq_false c21
              clear c21
              by_cases c25 : (x4_5.size : Int) < (a0.size : Int)
              ·
               rw [if_pos c25] at H
               have c25b0 : decide ((x4_5.size : Int) < (a0.size : Int)) = true := decide_eq_true c25
               have c25b1 : decide (x4_5.size < a0.size) = true := decide_eq_true (Int.ofNat_lt.mp c25)
               clear c25
               simp only [Option.some.injEq, Prod.mk.injEq] at H
               obtain ⟨rfl, rfl⟩ := H
               go_wp2
               go_ret2
               exact ⟨rs_, dr_⟩
              ·
               rw [if_neg c25] at H
               have c25b0 : decide ((x4_5.size : Int) < (a0.size : Int)) = false := decide_eq_false c25
               have c25b1 : decide (x4_5.size < a0.size) = false := decide_eq_false (fun h => c25 (Int.ofNat_lt.mpr h))
               clear c25
               by_cases c26 : x6_5 = (-9223372036854775808)
               ·
                rw [if_pos c26] at H
                have c26b0 : (x6_5 == (-9223372036854775808)) = true := beq_iff_eq.mpr c26
                have c26b1 : (x6_5 != (-9223372036854775808)) = false := bne_eq_false_iff_eq.mpr c26
                clear c26
                simp only [Option.some.injEq, Prod.mk.injEq] at H
                obtain ⟨rfl, rfl⟩ := H
                go_wp2
                go_ret2
                exact ⟨rs_, dr_⟩
               ·
                rw [if_neg c26] at H
                have c26b0 : (x6_5 == (-9223372036854775808)) = false := beq_eq_false_iff_ne.mpr c26
                have c26b1 : (x6_5 != (-9223372036854775808)) = true := bne_iff_ne.mpr c26
                simp only [Option.some.injEq, Prod.mk.injEq] at H
                obtain ⟨rfl, rfl⟩ := H
                go_wp2
                go_ret2
                exact ⟨rs_, dr_⟩
def r01_Parse.j0 : Nat → ByteArray → Bool → Option (Int × Bool × Int)
 | 0, _, _ => none
 | k + 1, x0, x4 => if x4 = true then (if 0 ≤ (wrap64 ((x0.size : Int) - 1)) then (if (wrap64 ((x0.size : Int) - 1)) ≤ (x0.size : Int) then ((r01_Read.f k (x0.extract 0 ((wrap64 ((x0.size : Int) - 1)) : Int).toNat)).bind fun bt528 => (if bt528.2 = 0 then (some (bt528.1, x4, 0)) else (some (0, false, bt528.2)))) else (none)) else (none)) else ((r01_Read.f k x0).bind fun bt530 => (if bt530.2 = 0 then (some (bt530.1, x4, 0)) else (some (0, false, bt530.2))))
def r01_Parse.f (k : Nat) (a0 : ByteArray) : Option (Int × Bool × Int) := if (a0.size : Int) > 0 then (if 0 ≤ (wrap64 ((a0.size : Int) - 1)) then (if (wrap64 ((a0.size : Int) - 1)) < (a0.size : Int) then (r01_Parse.j0 k a0 ((bt a0 (wrap64 ((a0.size : Int) - 1))) == 33)) else (none)) else (none)) else (r01_Parse.j0 k a0 false)
theorem r01_Parse.mono_l : ∀ k, (∀ y0 y1, LeC (r01_Parse.j0 k y0 y1) (r01_Parse.j0 (k + 1) y0 y1))
 | 0 => fun _ _ => ⟨fun r h => by simp [r01_Parse.j0] at h⟩
 | k + 1 => by have ih0 := r01_Parse.mono_l k; exact fun _ _ => by unfold r01_Parse.j0; exact lm
theorem r01_Parse.mono : ∀ a0 k, LeO (r01_Parse.f k a0) (r01_Parse.f (k + 1) a0) := by
 intro a0 k
 have ih0 := r01_Parse.mono_l k
 unfold r01_Parse.f
 exact lo
instance r01_Parse.mI {a0 k} : LeC (r01_Parse.f k a0) (r01_Parse.f (k + 1) a0) := ⟨r01_Parse.mono _ _⟩
theorem r01_Parse.calls (k : Nat) (a0 : ByteArray) (r1 : Int) (r2 : Bool) (r3 : Int) (w : World) (h : r01_Parse.f k a0 = some (r1, r2, r3)) :
 Calls Tryz.prog 63 #[.string a0] w fun e w' => e = .returned (.tuple #[.agg #[.int .i64 r1, .bool r2], .int .i64 r3]) ∧ Below w.heap.size w w' := by
 have hu43 := Tryz.underlying43
 have HB := Aside0.mk (Below.refl w.heap.size w)
 have H : (if (a0.size : Int) > 0 then (if 0 ≤ (wrap64 ((a0.size : Int) - 1)) then (if (wrap64 ((a0.size : Int) - 1)) < (a0.size : Int) then (r01_Parse.j0 k a0 ((bt a0 (wrap64 ((a0.size : Int) - 1))) == 33)) else (none)) else (none)) else (r01_Parse.j0 k a0 false)) = some (r1, r2, r3) := h
 clear h
 have HC2 := Aside0.mk H
 clear H
 go_enter Tryz.func63, Tryz.ntmps63
 go_upto_region 1 with (first | ((with_reducible refine gate_dst (N := 2) rfl ?_); (try (refine gate_guard (by rfl) ?_; dsimp only)); refine bx (N := 2) #[.int .i64 0, .bool false] 43 ?_; intro gb527 hg w3 hbox hb; have BK527 := Aside0.mk (hbox); have GW527 := gw hg (uW HB.out); have GE527 := GW527; replace HB := cW HB hb; clear hb hbox hg))
 (try simp only [Act.put, List.setIfInBounds_toArray, List.set_cons_zero, List.set_cons_succ])
 go_cut [4] (fun v4 wc => ∃ (kq : Nat) (x4_1 : Bool), v4 = .bool x4_1 ∧ Aside0 (r01_Parse.j0 kq a0 x4_1 = some (r1, r2, r3)) ∧ Aside0 (kq ≤ k) ∧ Aside0 (wc.heap[gb527]? = some (.cells #[.int .i64 0, .bool false] 43 (0, 0))) ∧ Aside0 (Below w.heap.size w wc))
 case first =>
  have H := HC2.out
  clear HC2
  by_cases c4 : (a0.size : Int) > 0
  ·
   rw [if_pos c4] at H
   have c4b0 : decide (0 < (a0.size : Int)) = true := decide_eq_true c4
   have c4b1 : decide (0 < a0.size) = true := decide_eq_true (by omega)
   clear c4
   (first | rw [c4b0] | (simp only [i64_w, i32_w]; rw [c4b0]) | skip)
   obtain ⟨ji5, hji5⟩ : ∃ j_ : Int, (wrap64 ((a0.size : Int) - 1)) = j_ := ⟨_, rfl⟩
   (first | rw [hji5] at H | simp only [hji5] at H)
   have hji5w : (IntKind.i64.wrap ((a0.size : Int) - 1)) = ji5 := (i64_w _).trans hji5
   obtain ⟨c6b0, H⟩ := gdd H
   obtain ⟨c7b0, H⟩ := gdd H
   have H' := Aside0.mk H
   clear H
   have p8 : 0 ≤ ((ji5) : Int) := od
   have q8 : (ji5) < (a0.size : Int) := od
   have hx8 := bt_at a0 (ji5)
   replace p8 := eq_true p8
   replace q8 := eq_true q8
   go_wp2
   go_meet
   case rel => exact ⟨_, (((bt a0 (ji5)) == 33)), (by first | rfl | (simp; done) | (simp only [← hji5] <;> (first | rfl | simp)) | (simp [*]; done)), H', ⟨by first | omega | exact Nat.le_refl _⟩, ⟨uB BK527.out⟩, ⟨bl⟩⟩
  ·
   rw [if_neg c4] at H
   have c4b0 : decide (0 < (a0.size : Int)) = false := decide_eq_false c4
   have c4b1 : decide (0 < a0.size) = false := decide_eq_false (by omega)
   clear c4
   (first | rw [c4b0] | (simp only [i64_w, i32_w]; rw [c4b0]) | skip)
   have H' := Aside0.mk H
   clear H
   go_wp2
   go_meet
   case rel => exact ⟨_, (false), rs_, H', ⟨by first | omega | exact Nat.le_refl _⟩, ⟨uB BK527.out⟩, ⟨bl⟩⟩
 case rest =>
  clear HC2
  try clear p2
  try clear c4
  try clear c4b0
  try clear c4b1
  try clear c6
  try clear c6b0
  try clear p6
  try clear c7
  try clear c7b0
  try clear p8
  try clear q8
  try clear hx8
  try clear p8
  try clear q8
  obtain ⟨kq, x4_1, rfl, HA, HJ1, BK527, HB⟩ := hcut
  cases kq with
  | zero => exact absurd HA.out (by simp [r01_Parse.j0])
  | succ kj1 =>
   have H := HA.out
   clear HA
   simp only [r01_Parse.j0] at H
   by_cases c9 : x4_1 = true
   ·
    subst c9
    rw [if_pos rfl] at H
    obtain ⟨ji10, hji10⟩ : ∃ j_ : Int, (wrap64 ((a0.size : Int) - 1)) = j_ := ⟨_, rfl⟩
    (first | rw [hji10] at H | simp only [hji10] at H)
    have hji10w : (IntKind.i64.wrap ((a0.size : Int) - 1)) = ji10 := (i64_w _).trans hji10
    obtain ⟨c11, H⟩ := gd H
    have c11b0 := eq_true c11
    have c11b1 : decide (0 ≤ (ji10)) = true := decide_eq_true c11
    clear c11
    obtain ⟨c12, H⟩ := gd H
    have c12b0 := eq_true c12
    have c12b1 : decide ((ji10) ≤ (a0.size : Int)) = true := decide_eq_true c12
    clear c12
    obtain ⟨⟨t528, t529⟩, A13, H⟩ := bs H
    try dsimp only at H
    by_cases c14 : t529 = 0
    ·
     rw [if_pos c14] at H
     have c14b0 : (t529 == 0) = true := beq_iff_eq.mpr c14
     have c14b1 : (t529 != 0) = false := bne_eq_false_iff_eq.mpr c14
     clear c14
     simp only [Option.some.injEq, Prod.mk.injEq] at H
     obtain ⟨rfl, rfl, rfl⟩ := H
     go_wp2_with (first | ((with_reducible refine gate_callee (f := 60) rfl ?_); refine goesL_ (some 26) rfl rfl Tryz.func60 (by kernel_rfl) rfl #[.string (a0.extract 0 ((ji10) : Int).toNat)] rfl (by (try simp only [List.map_toArray, List.map_cons, List.map_nil]); first | done | (simp only [hji10]; rfl) | rfl | (simp only [List.length_drop, List.length_take]; rfl)) ?_; (with_reducible refine (r01_Read.calls kj1 (a0.extract 0 ((ji10) : Int).toNat) t528 t529 _ A13.out).mono ?_); rintro e w' ⟨rfl, ⟨nd, rfl⟩⟩; refine ⟨_, rfl, ?_⟩; (try (rw [drewN_self wc]; generalize hq_ : World.drewN wc _ = wc; have n0_ : Aside0 (wc.heap[gb527]? = some (.cells #[.int .i64 0, .bool false] 43 (0, 0))) := ⟨by rw [← hq_]; exact (uB BK527.out)⟩; have n1_ : Aside0 (Below w.heap.size w wc) := ⟨by rw [← hq_]; exact bl⟩; clear BK527 HB hq_; have BK527 := n0_; have HB := n1_; clear n0_ n1_)); obtain ⟨hcz15_0, hcz15_1, hfz15_0, hfz15_1⟩ := z2 BK527))
     refine bodyPost_ret (results_ct rfl _ _ gb527 43 #[.int .i64 t528, .bool true] (0, 0) _ rfl (by (with_reducible repeat (first | refine blk_drewN ?_ _ | refine blk_drew ?_ | refine blk_alloc ?_ _)); refine blk_put (cs := #[.int .i64 t528, .bool false]) ?_ 1 _ rfl; (with_reducible repeat (first | refine blk_drewN ?_ _ | refine blk_drew ?_ | refine blk_alloc ?_ _)); refine blk_put (cs := #[.int .i64 0, .bool false]) ?_ 0 _ rfl; exact uB <| BK527.out) Tryz.underlying43 rfl (by kernel_rfl)) rfl ?_
     exact ⟨by first | rfl | (simp [errW_none, errW_some] <;> rfl) | (simp only [← hji10]; first | rfl | (simp [errW_none, errW_some] <;> rfl)) | (simp [*, errW_none, errW_some] <;> rfl), bl⟩
    ·
     rw [if_neg c14] at H
     have c14b0 : (t529 == 0) = false := beq_eq_false_iff_ne.mpr c14
     have c14b1 : (t529 != 0) = true := bne_iff_ne.mpr c14
     simp only [Option.some.injEq, Prod.mk.injEq] at H
     obtain ⟨rfl, rfl, rfl⟩ := H
     go_wp2_with (first | ((with_reducible refine gate_callee (f := 60) rfl ?_); refine goesL_ (some 26) rfl rfl Tryz.func60 (by kernel_rfl) rfl #[.string (a0.extract 0 ((ji10) : Int).toNat)] rfl (by (try simp only [List.map_toArray, List.map_cons, List.map_nil]); first | done | (simp only [hji10]; rfl) | rfl | (simp only [List.length_drop, List.length_take]; rfl)) ?_; (with_reducible refine (r01_Read.calls kj1 (a0.extract 0 ((ji10) : Int).toNat) t528 t529 _ A13.out).mono ?_); rintro e w' ⟨rfl, ⟨nd, rfl⟩⟩; refine ⟨_, rfl, ?_⟩; (try (rw [drewN_self wc]; generalize hq_ : World.drewN wc _ = wc; have n0_ : Aside0 (wc.heap[gb527]? = some (.cells #[.int .i64 0, .bool false] 43 (0, 0))) := ⟨by rw [← hq_]; exact (uB BK527.out)⟩; have n1_ : Aside0 (Below w.heap.size w wc) := ⟨by rw [← hq_]; exact bl⟩; clear BK527 HB hq_; have BK527 := n0_; have HB := n1_; clear n0_ n1_)); obtain ⟨hcz16_0, hcz16_1, hfz16_0, hfz16_1⟩ := z2 BK527))
     refine bodyPost_ret (results_ct rfl _ _ gb527 43 #[.int .i64 0, .bool false] (0, 0) _ rfl (by (with_reducible repeat (first | refine blk_drewN ?_ _ | refine blk_drew ?_ | refine blk_alloc ?_ _)); refine blk_put (cs := #[.int .i64 0, .bool false]) ?_ 1 _ rfl; (with_reducible repeat (first | refine blk_drewN ?_ _ | refine blk_drew ?_ | refine blk_alloc ?_ _)); refine blk_put (cs := #[.int .i64 0, .bool false]) ?_ 0 _ rfl; exact uB <| BK527.out) Tryz.underlying43 rfl (by kernel_rfl)) rfl ?_
     exact ⟨by first | rfl | (simp [errW_none, errW_some] <;> rfl) | (simp only [← hji10]; first | rfl | (simp [errW_none, errW_some] <;> rfl)) | (simp [*, errW_none, errW_some] <;> rfl), bl⟩
   ·
    replace c9 := Bool.eq_false_iff.mpr c9
    subst c9
    rw [if_neg (show ¬ (false = true) by decide)] at H
    obtain ⟨⟨t530, t531⟩, A17, H⟩ := bs H
    try dsimp only at H
    by_cases c18 : t531 = 0
    ·
     rw [if_pos c18] at H
     have c18b0 : (t531 == 0) = true := beq_iff_eq.mpr c18
     have c18b1 : (t531 != 0) = false := bne_eq_false_iff_eq.mpr c18
     clear c18
     simp only [Option.some.injEq, Prod.mk.injEq] at H
     obtain ⟨rfl, rfl, rfl⟩ := H
     go_wp2_with (first | (refine gL (some 26) rfl Tryz.func60 #[.string a0] ?_; (with_reducible refine (r01_Read.calls kj1 a0 t530 t531 _ A17.out).mono ?_); rintro e w' ⟨rfl, ⟨nd, rfl⟩⟩; refine ⟨_, rfl, ?_⟩; (try (rw [drewN_self wc]; generalize hq_ : World.drewN wc _ = wc; have n0_ : Aside0 (wc.heap[gb527]? = some (.cells #[.int .i64 0, .bool false] 43 (0, 0))) := ⟨by rw [← hq_]; exact (uB BK527.out)⟩; have n1_ : Aside0 (Below w.heap.size w wc) := ⟨by rw [← hq_]; exact bl⟩; clear BK527 HB hq_; have BK527 := n0_; have HB := n1_; clear n0_ n1_)); obtain ⟨hcz19_0, hcz19_1, hfz19_0, hfz19_1⟩ := z2 BK527))
     refine bodyPost_ret (results_ct rfl _ _ gb527 43 #[.int .i64 t530, .bool false] (0, 0) _ rfl (by (with_reducible repeat (first | refine blk_drewN ?_ _ | refine blk_drew ?_ | refine blk_alloc ?_ _)); refine blk_put (cs := #[.int .i64 t530, .bool false]) ?_ 1 _ rfl; (with_reducible repeat (first | refine blk_drewN ?_ _ | refine blk_drew ?_ | refine blk_alloc ?_ _)); refine blk_put (cs := #[.int .i64 0, .bool false]) ?_ 0 _ rfl; exact uB <| BK527.out) Tryz.underlying43 rfl (by kernel_rfl)) rfl ?_
     exact ⟨re_, bl⟩
    ·
     rw [if_neg c18] at H
     have c18b0 : (t531 == 0) = false := beq_eq_false_iff_ne.mpr c18
     have c18b1 : (t531 != 0) = true := bne_iff_ne.mpr c18
     simp only [Option.some.injEq, Prod.mk.injEq] at H
     obtain ⟨rfl, rfl, rfl⟩ := H
     go_wp2_with (first | (refine gL (some 26) rfl Tryz.func60 #[.string a0] ?_; (with_reducible refine (r01_Read.calls kj1 a0 t530 t531 _ A17.out).mono ?_); rintro e w' ⟨rfl, ⟨nd, rfl⟩⟩; refine ⟨_, rfl, ?_⟩; (try (rw [drewN_self wc]; generalize hq_ : World.drewN wc _ = wc; have n0_ : Aside0 (wc.heap[gb527]? = some (.cells #[.int .i64 0, .bool false] 43 (0, 0))) := ⟨by rw [← hq_]; exact (uB BK527.out)⟩; have n1_ : Aside0 (Below w.heap.size w wc) := ⟨by rw [← hq_]; exact bl⟩; clear BK527 HB hq_; have BK527 := n0_; have HB := n1_; clear n0_ n1_)); obtain ⟨hcz20_0, hcz20_1, hfz20_0, hfz20_1⟩ := z2 BK527))
     refine bodyPost_ret (results_ct rfl _ _ gb527 43 #[.int .i64 0, .bool false] (0, 0) _ rfl (by (with_reducible repeat (first | refine blk_drewN ?_ _ | refine blk_drew ?_ | refine blk_alloc ?_ _)); refine blk_put (cs := #[.int .i64 0, .bool false]) ?_ 1 _ rfl; (with_reducible repeat (first | refine blk_drewN ?_ _ | refine blk_drew ?_ | refine blk_alloc ?_ _)); refine blk_put (cs := #[.int .i64 0, .bool false]) ?_ 0 _ rfl; exact uB <| BK527.out) Tryz.underlying43 rfl (by kernel_rfl)) rfl ?_
     exact ⟨re_, bl⟩
def r08_one.f (k : Nat) (a0 : ByteArray) : Option (Int × ByteArray × Int × Bool × Int) := (r02_Split.f k a0 124).bind fun t533 => (if (t533.length : Int) = 3 then (if 0 < (t533.length : Int) then ((r01_Read.f k (rdOf ByteArray.empty t533 0)).bind fun bt537 => (if bt537.2 = 0 then (if 1 < (t533.length : Int) then ((r08_group.f k (rdOf ByteArray.empty t533 1)).bind fun t540 => (if t540 = 0 then (if 2 < (t533.length : Int) then ((r01_Parse.f k (rdOf ByteArray.empty t533 2)).bind fun bt542 => (if bt542.2.2 = 0 then (some (bt537.1, rdOf ByteArray.empty t533 1, bt542.1, bt542.2.1, 0)) else (some (0, (⟨#[]⟩ : ByteArray), 0, false, bt542.2.2)))) else (none)) else (some (0, (⟨#[]⟩ : ByteArray), 0, false, t540)))) else (none)) else (some (0, (⟨#[]⟩ : ByteArray), 0, false, bt537.2)))) else (none)) else (some (0, (⟨#[]⟩ : ByteArray), 0, false, 2)))
theorem r08_one.mono : ∀ a0 k, LeO (r08_one.f k a0) (r08_one.f (k + 1) a0) := by
 intro a0 k
 unfold r08_one.f
 exact lo
instance r08_one.mI {a0 k} : LeC (r08_one.f k a0) (r08_one.f (k + 1) a0) := ⟨r08_one.mono _ _⟩
def r08_one.T13 : Bool × List (List Nat × List Nat) := (true, [([], []), ([], []), ([1], [1]), ([2], [2]), ([], []), ([0, 3, 4], [0, 3, 4]), ([5, 0, 1, 2, 3, 4, 5], [5]), ([6, 0, 1, 2, 3, 4, 5, 6], [])])
def r08_one.B13 : List Nat := [0, 0, 2, 6, 0, 31, 63, 127]
theorem r08_one.tab13 : rtab .any (opsOf Tryz.f43 13) = r08_one.T13 := by kernel_rfl
theorem r08_one.bits13 : waitsOk r08_one.T13.2 r08_one.B13 = true := by kernel_rfl
theorem r08_one.calls (k : Nat) (a0 : ByteArray) (r1 : Int) (r2 : ByteArray) (r3 : Int) (r4 : Bool) (r5 : Int) (w : World) (h : r08_one.f k a0 = some (r1, r2, r3, r4, r5)) :
 Calls Tryz.prog 43 #[.string a0] w fun e w' => e = .returned (.tuple #[.agg #[.int .i64 r1, .string r2, .int .i64 r3, .bool r4], .int .i64 r5]) ∧ Below w.heap.size w w' := by
 have hu45 := Tryz.underlying45
 have hu43 := Tryz.underlying43
 have HB := Aside0.mk (Below.refl w.heap.size w)
 have H : ((r02_Split.f k a0 124).bind fun t533 => (if (t533.length : Int) = 3 then (if 0 < (t533.length : Int) then ((r01_Read.f k (rdOf ByteArray.empty t533 0)).bind fun bt537 => (if bt537.2 = 0 then (if 1 < (t533.length : Int) then ((r08_group.f k (rdOf ByteArray.empty t533 1)).bind fun t540 => (if t540 = 0 then (if 2 < (t533.length : Int) then ((r01_Parse.f k (rdOf ByteArray.empty t533 2)).bind fun bt542 => (if bt542.2.2 = 0 then (some (bt537.1, rdOf ByteArray.empty t533 1, bt542.1, bt542.2.1, 0)) else (some (0, (⟨#[]⟩ : ByteArray), 0, false, bt542.2.2)))) else (none)) else (some (0, (⟨#[]⟩ : ByteArray), 0, false, t540)))) else (none)) else (some (0, (⟨#[]⟩ : ByteArray), 0, false, bt537.2)))) else (none)) else (some (0, (⟨#[]⟩ : ByteArray), 0, false, 2)))) = some (r1, r2, r3, r4, r5) := h
 clear h
 obtain ⟨t533, A2, H⟩ := bs H
 try dsimp only at H
 by_cases c3 : (t533.length : Int) = 3
 ·
  rw [if_pos c3] at H
  have c3b0 : ((t533.length : Int) == 3) = true := beq_iff_eq.mpr c3
  have c3b1 : ((t533.length : Int) != 3) = false := bne_eq_false_iff_eq.mpr c3
  clear c3
  obtain ⟨c4, H⟩ := gd H
  have c4b0 : decide (0 < (t533.length : Int)) = true := decide_eq_true c4
  have c4b1 : decide (0 < t533.length) = true := decide_eq_true (by omega)
  clear c4
  obtain ⟨⟨t537, t538⟩, A5, H⟩ := bs H
  try dsimp only at H
  by_cases c6 : t538 = 0
  ·
   rw [if_pos c6] at H
   have c6b0 : (t538 == 0) = true := beq_iff_eq.mpr c6
   have c6b1 : (t538 != 0) = false := bne_eq_false_iff_eq.mpr c6
   clear c6
   obtain ⟨c7, H⟩ := gd H
   have c7b0 : decide (1 < (t533.length : Int)) = true := decide_eq_true c7
   have c7b1 : decide (1 < t533.length) = true := decide_eq_true (by omega)
   clear c7
   obtain ⟨t540, A8, H⟩ := bs H
   try dsimp only at H
   by_cases c9 : t540 = 0
   ·
    rw [if_pos c9] at H
    have c9b0 : (t540 == 0) = true := beq_iff_eq.mpr c9
    have c9b1 : (t540 != 0) = false := bne_eq_false_iff_eq.mpr c9
    clear c9
    obtain ⟨c10, H⟩ := gd H
    have c10b0 : decide (2 < (t533.length : Int)) = true := decide_eq_true c10
    have c10b1 : decide (2 < t533.length) = true := decide_eq_true (by omega)
    clear c10
    obtain ⟨⟨t542, t543, t544⟩, A11, H⟩ := bs H
    try dsimp only at H
    by_cases c12 : t544 = 0
    ·
     rw [if_pos c12] at H
     have c12b0 : (t544 == 0) = true := beq_iff_eq.mpr c12
     have c12b1 : (t544 != 0) = false := bne_eq_false_iff_eq.mpr c12
     clear c12
     simp only [Option.some.injEq, Prod.mk.injEq] at H
     obtain ⟨rfl, rfl, rfl, rfl, rfl⟩ := H
     go_enter Tryz.func43, Tryz.ntmps43
     try go_wp2_with (first | ((with_reducible refine gate_dst (N := 2) rfl ?_); refine bx (N := 2) #[.int .i64 0, .string (⟨#[]⟩ : ByteArray), .int .i64 0, .bool false] 45 ?_; intro gb532 hg w13 hbox hb; have BK532 := Aside0.mk (hbox); have GW532 := gw hg (uW HB.out); have GE532 := GW532; replace HB := cW HB hb; clear hb hbox hg) | (refine gL (some 9) rfl Tryz.func41 #[.string a0, .int .u8 124] ?_; (with_reducible refine (r02_Split.calls k a0 124 t533 _ A2.out).mono ?_); rintro e w14 ⟨v534, rfl, ho0, hb⟩; refine ⟨_, rfl, ?_⟩; have HO535 := Aside0.mk (Kd.R_lower ho0 (below_size bl)); replace BK532 := cB BK532 hb; replace HB := Aside0.mk (below_step bl hb); (try clear hb); (try clear ho0); obtain ⟨Ao15, co15, eo15⟩ := Kd.R_slice HO535.out; subst eo15; have p536 : 0 ≤ (0 : Int) := (by omega); have q536 : 0 < (t533.length : Int) := od; obtain ⟨ad536, e536, hx536_0⟩ := Kd.at_string (Kd.R_reads' HO535.out).2.2 0 p536 q536; cases e536; have qi536 : (0 < t533.length) = True := eq_true (by omega); (try rw [show ((0 : Int)).toNat = 0 from rfl] at hx536_0); (try rw [Addr.add_zero'] at hx536_0); replace p536 := eq_true p536; replace q536 := eq_true q536) | (refine gL (some 18) rfl Tryz.func60 #[.string (rdOf ByteArray.empty t533 0)] ?_; (with_reducible refine (r01_Read.calls k (rdOf ByteArray.empty t533 0) t537 t538 _ A5.out).mono ?_); rintro e w' ⟨rfl, ⟨nd, rfl⟩⟩; refine ⟨_, rfl, ?_⟩; (try (rw [drewN_self w14]; generalize hq_ : World.drewN w14 _ = w14; have n0_ : Aside0 (Kd.R Kd.string 9 w14 w.heap.size (fun _ => True) (.slice (some ad536) t533.length co15) t533) := ⟨by rw [← hq_]; exact (uR HO535.out)⟩; have n1_ : Aside0 (w14.heap[gb532]? = some (.cells #[.int .i64 0, .string (⟨#[]⟩ : ByteArray), .int .i64 0, .bool false] 45 (0, 0))) := ⟨by rw [← hq_]; exact (uB BK532.out)⟩; have n2_ : Aside0 (Below w.heap.size w w14) := ⟨by rw [← hq_]; exact bl⟩; clear HO535 BK532 HB hq_; have HO535 := n0_; have BK532 := n1_; have HB := n2_; clear n0_ n1_ n2_)); have p539 : 0 ≤ (1 : Int) := (by omega); have q539 : 1 < (t533.length : Int) := od; obtain ⟨ad539, e539, hx539_0⟩ := Kd.at_string (Kd.R_reads' HO535.out).2.2 1 p539 q539; obtain rfl : ad536 = ad539 := (by injection e539); (try simp only [show (1 : Int).toNat = 1 from rfl, Nat.reduceMul, Nat.reduceEqDiff, Go.Addr.add, ↓reduceIte] at hx539_0); have qi539 : (1 < t533.length) = True := eq_true (by omega); (try rw [show ((1 : Int)).toNat = 1 from rfl] at hx539_0); replace p539 := eq_true p539; replace q539 := eq_true q539) | (refine gL (some 28) rfl Tryz.func51 #[.string (rdOf ByteArray.empty t533 1)] ?_; (with_reducible refine (r08_group.calls k (rdOf ByteArray.empty t533 1) t540 _ A8.out).mono ?_); rintro e w16 ⟨rfl, hb⟩; refine ⟨_, rfl, ?_⟩; replace HO535 := cR HO535 hb; replace BK532 := cB BK532 hb; replace HB := Aside0.mk (below_step bl hb); (try clear hb); have p541 : 0 ≤ (2 : Int) := (by omega); have q541 : 2 < (t533.length : Int) := od; obtain ⟨ad541, e541, hx541_0⟩ := Kd.at_string (Kd.R_reads' HO535.out).2.2 2 p541 q541; obtain rfl : ad536 = ad541 := (by injection e541); (try simp only [show (2 : Int).toNat = 2 from rfl, Nat.reduceMul, Nat.reduceEqDiff, Go.Addr.add, ↓reduceIte] at hx541_0); have qi541 : (2 < t533.length) = True := eq_true (by omega); (try rw [show ((2 : Int)).toNat = 2 from rfl] at hx541_0); replace p541 := eq_true p541; replace q541 := eq_true q541) | (refine gL (some 37) rfl Tryz.func63 #[.string (rdOf ByteArray.empty t533 2)] ?_; (with_reducible refine (r01_Parse.calls k (rdOf ByteArray.empty t533 2) t542 t543 t544 _ A11.out).mono ?_); rintro e w17 ⟨rfl, hb⟩; refine ⟨_, rfl, ?_⟩; replace HO535 := cR HO535 hb; replace BK532 := cB BK532 hb; replace HB := Aside0.mk (below_step bl hb); (try clear hb)) | ((with_reducible refine gate_dst (N := 7) rfl ?_); refine bx (N := 7) #[.int .i64 0, .bool false] 43 ?_; intro gb545 hg w18 hbox hb; replace HO535 := cR HO535 hb; have BK545 := Aside0.mk (hbox); have GW545 := gw hg bl; have GE545 := GW545; replace HB := Aside0.mk (below_step bl hb); have NB532_545 := Aside0.mk ((by rw [hg]; exact Nat.ne_of_lt (blk_lt (g := gb532) (o := .cells #[.int .i64 0, .string (⟨#[]⟩ : ByteArray), .int .i64 0, .bool false] 45 (0, 0)) (uB BK532.out)) : gb532 ≠ gb545)); have NB545_532 := Aside0.mk ((by rw [hg]; exact Nat.ne_of_gt (blk_lt (g := gb532) (o := .cells #[.int .i64 0, .string (⟨#[]⟩ : ByteArray), .int .i64 0, .bool false] 45 (0, 0)) (uB BK532.out)) : gb545 ≠ gb532)); replace BK532 := cB BK532 hb; clear hb hbox hg; have hnb19 := NB545_532.out; have hnc19 := NB532_545.out; obtain ⟨hcz20_0, hcz20_1, hfz20_0, hfz20_1⟩ := z2 BK545))
     have n0_ : Aside0 (Kd.R Kd.string 9 ((w18.setCell ⟨gb545, 0, none⟩ (.int .i64 t542)).setCell ⟨gb545, 1, none⟩ (.bool t543)) w.heap.size (fun _ => True) (.slice (some ad536) t533.length co15) t533) := ⟨by exact uR <| Kd.R_mono (Kd.R_far (p := ⟨gb545, 1, none⟩) (Kd.R_far (p := ⟨gb545, 0, none⟩) (Kd.R_types HO535.out BK545.out (by decide)) (fun _ hk => hk.2) (.int .i64 t542)) (fun _ hk => hk.2) (.bool t543)) (fun _ hk => trivial)⟩
     have n1_ : Aside0 (((w18.setCell ⟨gb545, 0, none⟩ (.int .i64 t542)).setCell ⟨gb545, 1, none⟩ (.bool t543)).heap[gb532]? = some (.cells #[.int .i64 0, .string (⟨#[]⟩ : ByteArray), .int .i64 0, .bool false] 45 (0, 0))) := ⟨by (with_reducible repeat (first | refine blk_drewN ?_ _ | refine blk_drew ?_ | refine blk_alloc ?_ _)); refine blk_far ?_ NB532_545.out _; (with_reducible repeat (first | refine blk_drewN ?_ _ | refine blk_drew ?_ | refine blk_alloc ?_ _)); refine blk_far ?_ NB532_545.out _; exact uB <| BK532.out⟩
     have n2_ : Aside0 (((w18.setCell ⟨gb545, 0, none⟩ (.int .i64 t542)).setCell ⟨gb545, 1, none⟩ (.bool t543)).heap[gb545]? = some (.cells #[.int .i64 t542, .bool t543] 43 (0, 0))) := ⟨by (with_reducible repeat (first | refine blk_drewN ?_ _ | refine blk_drew ?_ | refine blk_alloc ?_ _)); refine blk_put (cs := #[.int .i64 t542, .bool false]) ?_ 1 _ rfl; (with_reducible repeat (first | refine blk_drewN ?_ _ | refine blk_drew ?_ | refine blk_alloc ?_ _)); refine blk_put (cs := #[.int .i64 0, .bool false]) ?_ 0 _ rfl; exact uB <| BK545.out⟩
     have n3_ : Aside0 (Below w.heap.size w ((w18.setCell ⟨gb545, 0, none⟩ (.int .i64 t542)).setCell ⟨gb545, 1, none⟩ (.bool t543))) := ⟨bl⟩
     (try clear HO535)
     (try clear BK532)
     (try clear BK545)
     (try clear HB)
     generalize ((w18.setCell ⟨gb545, 0, none⟩ (.int .i64 t542)).setCell ⟨gb545, 1, none⟩ (.bool t543)) = w21 at n0_ n1_ n2_ n3_ ⊢
     have HO535 := n0_
     have BK532 := n1_
     have BK545 := n2_
     have HB := n3_
     clear n0_ n1_ n2_ n3_
     replace HO535 := Aside0.mk (Kd.R_drew HO535.out)
     replace BK532 := Aside0.mk (blk_drew BK532.out)
     replace BK545 := Aside0.mk (blk_drew BK545.out)
     replace HB := Aside0.mk (below_drew1 HB.out)
     have p546 : 0 ≤ (1 : Int) := (by omega)
     have q546 : 1 < (t533.length : Int) := od
     obtain ⟨ad546, e546, hx546_0⟩ := Kd.at_string (Kd.R_reads' HO535.out).2.2 1 p546 q546
     obtain rfl : ad536 = ad546 := (by injection e546)
     (try simp only [show (1 : Int).toNat = 1 from rfl, Nat.reduceMul, Nat.reduceEqDiff, Go.Addr.add, ↓reduceIte] at hx546_0)
     have qi546 : (1 < t533.length) = True := eq_true (by omega)
     (try rw [show ((1 : Int)).toNat = 1 from rfl] at hx546_0)
     replace p546 := eq_true p546
     replace q546 := eq_true q546
     refine start_ (n := 8) (S := fun w' => w'.cell? ⟨gb545, 0, none⟩ = some (.int .i64 t542) ∧ w'.cell? ⟨gb545, 1, none⟩ = some (.bool t543) ∧ w'.cell? ⟨ad536.block, ad536.off + 1, none⟩ = some (.string (rdOf ByteArray.empty t533 1))) (ds := []) _ (by kernel_rfl) rfl rfl ⟨(blk_cell BK545.out 0).trans rfl, (blk_cell BK545.out 1).trans rfl, hx546_0⟩ (fun hHeld => ?_); refine with_tabW r08_one.tab13 r08_one.bits13 (fun HT_ HW_ => ?_)
     generalize w21.drew = w22 at HO535 BK532 BK545 HB hx546_0 hHeld ⊢
     refine p1 0 (some 44) ?_
     refine p1 1 (some 45) ?_
     refine p1 2 (some 46) ?_
     refine t1 3 (some 47) rfl rfl hHeld (Or.inl ⟨by rfl, by rintro w' ⟨s0, s1, s2⟩; go_simp; with_reducible rfl⟩) ?_
     refine t1 4 (some 48) rfl rfl hHeld (Or.inl ⟨by rfl, by rintro w' ⟨s0, s1, s2⟩; go_simp; with_reducible rfl⟩) ?_
     refine p1 5 (some 49) ?_
     refine o1 6 none rfl rfl (fun K hK => ?_)
     have hs23 : w22.cell? ⟨gb532, 0, none⟩ = some (.int .i64 0) := (blk_cell BK532.out 0).trans rfl
     have hfs23 := blk_frozen BK532.out 0
     have hns23_1 := NB545_532.out
     have hms23_1 := NB532_545.out
     have hs24 : w22.cell? ⟨gb532, 1, none⟩ = some (.string (⟨#[]⟩ : ByteArray)) := (blk_cell BK532.out 1).trans rfl
     have hfs24 := blk_frozen BK532.out 1
     have hns24_1 := NB545_532.out
     have hms24_1 := NB532_545.out
     have hs25 : w22.cell? ⟨gb532, 2, none⟩ = some (.int .i64 0) := (blk_cell BK532.out 2).trans rfl
     have hfs25 := blk_frozen BK532.out 2
     have hns25_1 := NB545_532.out
     have hms25_1 := NB532_545.out
     have hs26 : w22.cell? ⟨gb532, 3, none⟩ = some (.bool false) := (blk_cell BK532.out 3).trans rfl
     have hfs26 := blk_frozen BK532.out 3
     have hns26_1 := NB545_532.out
     have hms26_1 := NB532_545.out
     refine skip_ (w1 := ?_) (by rfl) rfl ?_ ?_
     rotate_left
     ·
      go_simp
      rfl
     refine hK.out _ _ ⟨((cell_far (p := ⟨gb532, _, none⟩) NB545_532.out _).trans (((cell_far (p := ⟨gb532, _, none⟩) NB545_532.out _).trans (((cell_far (p := ⟨gb532, _, none⟩) NB545_532.out _).trans (((cell_far (p := ⟨gb532, _, none⟩) NB545_532.out _).trans (hHeld.1)))))))), ((cell_far (p := ⟨gb532, _, none⟩) NB545_532.out _).trans (((cell_far (p := ⟨gb532, _, none⟩) NB545_532.out _).trans (((cell_far (p := ⟨gb532, _, none⟩) NB545_532.out _).trans (((cell_far (p := ⟨gb532, _, none⟩) NB545_532.out _).trans (hHeld.2.1)))))))), ((cell_far (p := ⟨gb532, _, none⟩) (by first | exact Kd.own_blk (Kd.R_ne HO535.out BK532.out (by decide)) | (rw [add_block]; exact Kd.own_blk (Kd.R_ne HO535.out BK532.out (by decide))) | (show (Addr.add _ _).block ≠ _; rw [add_block]; exact Kd.own_blk (Kd.R_ne HO535.out BK532.out (by decide))) | (dsimp only; exact Kd.own_blk (Kd.R_ne HO535.out BK532.out (by decide)))) _).trans (((cell_far (p := ⟨gb532, _, none⟩) (by first | exact Kd.own_blk (Kd.R_ne HO535.out BK532.out (by decide)) | (rw [add_block]; exact Kd.own_blk (Kd.R_ne HO535.out BK532.out (by decide))) | (show (Addr.add _ _).block ≠ _; rw [add_block]; exact Kd.own_blk (Kd.R_ne HO535.out BK532.out (by decide))) | (dsimp only; exact Kd.own_blk (Kd.R_ne HO535.out BK532.out (by decide)))) _).trans (((cell_far (p := ⟨gb532, _, none⟩) (by first | exact Kd.own_blk (Kd.R_ne HO535.out BK532.out (by decide)) | (rw [add_block]; exact Kd.own_blk (Kd.R_ne HO535.out BK532.out (by decide))) | (show (Addr.add _ _).block ≠ _; rw [add_block]; exact Kd.own_blk (Kd.R_ne HO535.out BK532.out (by decide))) | (dsimp only; exact Kd.own_blk (Kd.R_ne HO535.out BK532.out (by decide)))) _).trans (((cell_far (p := ⟨gb532, _, none⟩) (by first | exact Kd.own_blk (Kd.R_ne HO535.out BK532.out (by decide)) | (rw [add_block]; exact Kd.own_blk (Kd.R_ne HO535.out BK532.out (by decide))) | (show (Addr.add _ _).block ≠ _; rw [add_block]; exact Kd.own_blk (Kd.R_ne HO535.out BK532.out (by decide))) | (dsimp only; exact Kd.own_blk (Kd.R_ne HO535.out BK532.out (by decide)))) _).trans (hHeld.2.2))))))))⟩ (fun hHeld => ?_)
     clear hK K
     refine p1 7 (some 3) ?_
     refine done_ (done_of HT_.out (by kernel_rfl)) ?_
     try go_wp2
     refine bodyPost_ret (results_ct rfl _ _ gb532 45 #[.int .i64 t537, .string (rdOf ByteArray.empty t533 1), .int .i64 t542, .bool t543] (0, 0) _ rfl (by (with_reducible repeat (first | refine blk_drewN ?_ _ | refine blk_drew ?_ | refine blk_alloc ?_ _)); refine blk_put (cs := #[.int .i64 t537, .string (rdOf ByteArray.empty t533 1), .int .i64 t542, .bool false]) ?_ 3 _ rfl; (with_reducible repeat (first | refine blk_drewN ?_ _ | refine blk_drew ?_ | refine blk_alloc ?_ _)); refine blk_put (cs := #[.int .i64 t537, .string (rdOf ByteArray.empty t533 1), .int .i64 0, .bool false]) ?_ 2 _ rfl; (with_reducible repeat (first | refine blk_drewN ?_ _ | refine blk_drew ?_ | refine blk_alloc ?_ _)); refine blk_put (cs := #[.int .i64 t537, .string (⟨#[]⟩ : ByteArray), .int .i64 0, .bool false]) ?_ 1 _ rfl; (with_reducible repeat (first | refine blk_drewN ?_ _ | refine blk_drew ?_ | refine blk_alloc ?_ _)); refine blk_put (cs := #[.int .i64 0, .string (⟨#[]⟩ : ByteArray), .int .i64 0, .bool false]) ?_ 0 _ rfl; exact uB <| BK532.out) Tryz.underlying45 rfl (by kernel_rfl)) rfl ?_
     exact ⟨re_, bl⟩
    ·
     rw [if_neg c12] at H
     have c12b0 : (t544 == 0) = false := beq_eq_false_iff_ne.mpr c12
     have c12b1 : (t544 != 0) = true := bne_iff_ne.mpr c12
     simp only [Option.some.injEq, Prod.mk.injEq] at H
     obtain ⟨rfl, rfl, rfl, rfl, rfl⟩ := H
     go_enter Tryz.func43, Tryz.ntmps43
     go_wp2_with (first | ((with_reducible refine gate_dst (N := 2) rfl ?_); refine bx (N := 2) #[.int .i64 0, .string (⟨#[]⟩ : ByteArray), .int .i64 0, .bool false] 45 ?_; intro gb532 hg w27 hbox hb; have BK532 := Aside0.mk (hbox); have GW532 := gw hg (uW HB.out); have GE532 := GW532; replace HB := cW HB hb; clear hb hbox hg) | (refine gL (some 9) rfl Tryz.func41 #[.string a0, .int .u8 124] ?_; (with_reducible refine (r02_Split.calls k a0 124 t533 _ A2.out).mono ?_); rintro e w28 ⟨v534, rfl, ho0, hb⟩; refine ⟨_, rfl, ?_⟩; have HO535 := Aside0.mk (Kd.R_lower ho0 (below_size bl)); replace BK532 := cB BK532 hb; replace HB := Aside0.mk (below_step bl hb); (try clear hb); (try clear ho0); obtain ⟨Ao29, co29, eo29⟩ := Kd.R_slice HO535.out; subst eo29; have p536 : 0 ≤ (0 : Int) := (by omega); have q536 : 0 < (t533.length : Int) := od; obtain ⟨ad536, e536, hx536_0⟩ := Kd.at_string (Kd.R_reads' HO535.out).2.2 0 p536 q536; cases e536; have qi536 : (0 < t533.length) = True := eq_true (by omega); (try rw [show ((0 : Int)).toNat = 0 from rfl] at hx536_0); (try rw [Addr.add_zero'] at hx536_0); replace p536 := eq_true p536; replace q536 := eq_true q536) | (refine gL (some 18) rfl Tryz.func60 #[.string (rdOf ByteArray.empty t533 0)] ?_; (with_reducible refine (r01_Read.calls k (rdOf ByteArray.empty t533 0) t537 t538 _ A5.out).mono ?_); rintro e w' ⟨rfl, ⟨nd, rfl⟩⟩; refine ⟨_, rfl, ?_⟩; (try (rw [drewN_self w28]; generalize hq_ : World.drewN w28 _ = w28; have n0_ : Aside0 (Kd.R Kd.string 9 w28 w.heap.size (fun _ => True) (.slice (some ad536) t533.length co29) t533) := ⟨by rw [← hq_]; exact (uR HO535.out)⟩; have n1_ : Aside0 (w28.heap[gb532]? = some (.cells #[.int .i64 0, .string (⟨#[]⟩ : ByteArray), .int .i64 0, .bool false] 45 (0, 0))) := ⟨by rw [← hq_]; exact (uB BK532.out)⟩; have n2_ : Aside0 (Below w.heap.size w w28) := ⟨by rw [← hq_]; exact bl⟩; clear HO535 BK532 HB hq_; have HO535 := n0_; have BK532 := n1_; have HB := n2_; clear n0_ n1_ n2_)); have p539 : 0 ≤ (1 : Int) := (by omega); have q539 : 1 < (t533.length : Int) := od; obtain ⟨ad539, e539, hx539_0⟩ := Kd.at_string (Kd.R_reads' HO535.out).2.2 1 p539 q539; obtain rfl : ad536 = ad539 := (by injection e539); (try simp only [show (1 : Int).toNat = 1 from rfl, Nat.reduceMul, Nat.reduceEqDiff, Go.Addr.add, ↓reduceIte] at hx539_0); have qi539 : (1 < t533.length) = True := eq_true (by omega); (try rw [show ((1 : Int)).toNat = 1 from rfl] at hx539_0); replace p539 := eq_true p539; replace q539 := eq_true q539) | (refine gL (some 28) rfl Tryz.func51 #[.string (rdOf ByteArray.empty t533 1)] ?_; (with_reducible refine (r08_group.calls k (rdOf ByteArray.empty t533 1) t540 _ A8.out).mono ?_); rintro e w30 ⟨rfl, hb⟩; refine ⟨_, rfl, ?_⟩; replace HO535 := cR HO535 hb; replace BK532 := cB BK532 hb; replace HB := Aside0.mk (below_step bl hb); (try clear hb); have p541 : 0 ≤ (2 : Int) := (by omega); have q541 : 2 < (t533.length : Int) := od; obtain ⟨ad541, e541, hx541_0⟩ := Kd.at_string (Kd.R_reads' HO535.out).2.2 2 p541 q541; obtain rfl : ad536 = ad541 := (by injection e541); (try simp only [show (2 : Int).toNat = 2 from rfl, Nat.reduceMul, Nat.reduceEqDiff, Go.Addr.add, ↓reduceIte] at hx541_0); have qi541 : (2 < t533.length) = True := eq_true (by omega); (try rw [show ((2 : Int)).toNat = 2 from rfl] at hx541_0); replace p541 := eq_true p541; replace q541 := eq_true q541) | (refine gL (some 37) rfl Tryz.func63 #[.string (rdOf ByteArray.empty t533 2)] ?_; (with_reducible refine (r01_Parse.calls k (rdOf ByteArray.empty t533 2) t542 t543 t544 _ A11.out).mono ?_); rintro e w31 ⟨rfl, hb⟩; refine ⟨_, rfl, ?_⟩; replace HO535 := cR HO535 hb; replace BK532 := cB BK532 hb; replace HB := Aside0.mk (below_step bl hb); (try clear hb)) | ((with_reducible refine gate_dst (N := 7) rfl ?_); refine bx (N := 7) #[.int .i64 0, .bool false] 43 ?_; intro gb545 hg w32 hbox hb; replace HO535 := cR HO535 hb; have BK545 := Aside0.mk (hbox); have GW545 := gw hg bl; have GE545 := GW545; replace HB := Aside0.mk (below_step bl hb); have NB532_545 := Aside0.mk ((by rw [hg]; exact Nat.ne_of_lt (blk_lt (g := gb532) (o := .cells #[.int .i64 0, .string (⟨#[]⟩ : ByteArray), .int .i64 0, .bool false] 45 (0, 0)) (uB BK532.out)) : gb532 ≠ gb545)); have NB545_532 := Aside0.mk ((by rw [hg]; exact Nat.ne_of_gt (blk_lt (g := gb532) (o := .cells #[.int .i64 0, .string (⟨#[]⟩ : ByteArray), .int .i64 0, .bool false] 45 (0, 0)) (uB BK532.out)) : gb545 ≠ gb532)); replace BK532 := cB BK532 hb; clear hb hbox hg; have hnb33 := NB545_532.out; have hnc33 := NB532_545.out; obtain ⟨hcz34_0, hcz34_1, hfz34_0, hfz34_1⟩ := z2 BK545; obtain ⟨hcz35_0, hcz35_1, hcz35_2, hcz35_3, hfz35_0, hfz35_1, hfz35_2, hfz35_3⟩ := z4 BK532) | ((with_reducible refine gate_store (t := 45) (p := 2) rfl ?_); refine store_event (t := 45) (p := 2) (v := ?vo_w36) (w1 := ((((((w32.setCell ⟨gb545, 0, none⟩ (.int .i64 t542)).setCell ⟨gb545, 1, none⟩ (.bool t543)).setCell ⟨gb532, 0, none⟩ (.int .i64 0)).setCell ⟨gb532, 1, none⟩ (.string (⟨#[]⟩ : ByteArray))).setCell ⟨gb532, 2, none⟩ (.int .i64 0)).setCell ⟨gb532, 3, none⟩ (.bool false))) ?hg ?ho ?hn ?hr ?_; (case ho => rfl); (case hg => rfl); (case hn => rfl); (case hr => first | (go_simp; done) | (go_simp; rfl)); intro w36 hw; have n0_ : Aside0 (Kd.R Kd.string 9 w36 w.heap.size (fun _ => True) (.slice (some ad536) t533.length co29) t533) := ⟨(by rw [hw]; exact (by exact uR <| Kd.R_mono (Kd.R_far (p := ⟨gb532, 3, none⟩) (Kd.R_far (p := ⟨gb532, 2, none⟩) (Kd.R_far (p := ⟨gb532, 1, none⟩) (Kd.R_far (p := ⟨gb532, 0, none⟩) (Kd.R_far (p := ⟨gb545, 1, none⟩) (Kd.R_far (p := ⟨gb545, 0, none⟩) (Kd.R_types (Kd.R_types HO535.out BK545.out (by decide)) BK532.out (by decide)) (fun _ hk => hk.1.2) (.int .i64 t542)) (fun _ hk => hk.1.2) (.bool t543)) (fun _ hk => hk.2) (.int .i64 0)) (fun _ hk => hk.2) (.string (⟨#[]⟩ : ByteArray))) (fun _ hk => hk.2) (.int .i64 0)) (fun _ hk => hk.2) (.bool false)) (fun _ hk => trivial)))⟩; have n1_ : Aside0 (w36.heap[gb532]? = some (.cells #[.int .i64 0, .string (⟨#[]⟩ : ByteArray), .int .i64 0, .bool false] 45 (0, 0))) := ⟨(by rw [hw]; exact (by (with_reducible repeat (first | refine blk_drewN ?_ _ | refine blk_drew ?_ | refine blk_alloc ?_ _)); refine blk_put (cs := #[.int .i64 0, .string (⟨#[]⟩ : ByteArray), .int .i64 0, .bool false]) ?_ 3 _ rfl; (with_reducible repeat (first | refine blk_drewN ?_ _ | refine blk_drew ?_ | refine blk_alloc ?_ _)); refine blk_put (cs := #[.int .i64 0, .string (⟨#[]⟩ : ByteArray), .int .i64 0, .bool false]) ?_ 2 _ rfl; (with_reducible repeat (first | refine blk_drewN ?_ _ | refine blk_drew ?_ | refine blk_alloc ?_ _)); refine blk_put (cs := #[.int .i64 0, .string (⟨#[]⟩ : ByteArray), .int .i64 0, .bool false]) ?_ 1 _ rfl; (with_reducible repeat (first | refine blk_drewN ?_ _ | refine blk_drew ?_ | refine blk_alloc ?_ _)); refine blk_put (cs := #[.int .i64 0, .string (⟨#[]⟩ : ByteArray), .int .i64 0, .bool false]) ?_ 0 _ rfl; (with_reducible repeat (first | refine blk_drewN ?_ _ | refine blk_drew ?_ | refine blk_alloc ?_ _)); refine blk_far ?_ NB532_545.out _; (with_reducible repeat (first | refine blk_drewN ?_ _ | refine blk_drew ?_ | refine blk_alloc ?_ _)); refine blk_far ?_ NB532_545.out _; exact uB <| BK532.out))⟩; have n2_ : Aside0 (w36.heap[gb545]? = some (.cells #[.int .i64 t542, .bool t543] 43 (0, 0))) := ⟨(by rw [hw]; exact (by (with_reducible repeat (first | refine blk_drewN ?_ _ | refine blk_drew ?_ | refine blk_alloc ?_ _)); refine blk_far ?_ NB545_532.out _; (with_reducible repeat (first | refine blk_drewN ?_ _ | refine blk_drew ?_ | refine blk_alloc ?_ _)); refine blk_far ?_ NB545_532.out _; (with_reducible repeat (first | refine blk_drewN ?_ _ | refine blk_drew ?_ | refine blk_alloc ?_ _)); refine blk_far ?_ NB545_532.out _; (with_reducible repeat (first | refine blk_drewN ?_ _ | refine blk_drew ?_ | refine blk_alloc ?_ _)); refine blk_far ?_ NB545_532.out _; (with_reducible repeat (first | refine blk_drewN ?_ _ | refine blk_drew ?_ | refine blk_alloc ?_ _)); refine blk_put (cs := #[.int .i64 t542, .bool false]) ?_ 1 _ rfl; (with_reducible repeat (first | refine blk_drewN ?_ _ | refine blk_drew ?_ | refine blk_alloc ?_ _)); refine blk_put (cs := #[.int .i64 0, .bool false]) ?_ 0 _ rfl; exact uB <| BK545.out))⟩; have n3_ : Aside0 (Below w.heap.size w w36) := ⟨(by rw [hw]; exact bl)⟩; clear hw; clear HO535; clear BK532; clear BK545; clear HB; have HO535 := n0_; have BK532 := n1_; have BK545 := n2_; have HB := n3_; clear n0_ n1_ n2_ n3_))
     refine bodyPost_ret (results_ct rfl _ _ gb532 45 #[.int .i64 0, .string (⟨#[]⟩ : ByteArray), .int .i64 0, .bool false] (0, 0) _ rfl (uB BK532.out) Tryz.underlying45 rfl (by kernel_rfl)) rfl ?_
     exact ⟨re_, bl⟩
   ·
    rw [if_neg c9] at H
    have c9b0 : (t540 == 0) = false := beq_eq_false_iff_ne.mpr c9
    have c9b1 : (t540 != 0) = true := bne_iff_ne.mpr c9
    simp only [Option.some.injEq, Prod.mk.injEq] at H
    obtain ⟨rfl, rfl, rfl, rfl, rfl⟩ := H
    go_enter Tryz.func43, Tryz.ntmps43
    go_wp2_with (first | ((with_reducible refine gate_dst (N := 2) rfl ?_); refine bx (N := 2) #[.int .i64 0, .string (⟨#[]⟩ : ByteArray), .int .i64 0, .bool false] 45 ?_; intro gb532 hg w37 hbox hb; have BK532 := Aside0.mk (hbox); have GW532 := gw hg (uW HB.out); have GE532 := GW532; replace HB := cW HB hb; clear hb hbox hg) | (refine gL (some 9) rfl Tryz.func41 #[.string a0, .int .u8 124] ?_; (with_reducible refine (r02_Split.calls k a0 124 t533 _ A2.out).mono ?_); rintro e w38 ⟨v534, rfl, ho0, hb⟩; refine ⟨_, rfl, ?_⟩; have HO535 := Aside0.mk (Kd.R_lower ho0 (below_size bl)); replace BK532 := cB BK532 hb; replace HB := Aside0.mk (below_step bl hb); (try clear hb); (try clear ho0); obtain ⟨Ao39, co39, eo39⟩ := Kd.R_slice HO535.out; subst eo39; have p536 : 0 ≤ (0 : Int) := (by omega); have q536 : 0 < (t533.length : Int) := od; obtain ⟨ad536, e536, hx536_0⟩ := Kd.at_string (Kd.R_reads' HO535.out).2.2 0 p536 q536; cases e536; have qi536 : (0 < t533.length) = True := eq_true (by omega); (try rw [show ((0 : Int)).toNat = 0 from rfl] at hx536_0); (try rw [Addr.add_zero'] at hx536_0); replace p536 := eq_true p536; replace q536 := eq_true q536) | (refine gL (some 18) rfl Tryz.func60 #[.string (rdOf ByteArray.empty t533 0)] ?_; (with_reducible refine (r01_Read.calls k (rdOf ByteArray.empty t533 0) t537 t538 _ A5.out).mono ?_); rintro e w' ⟨rfl, ⟨nd, rfl⟩⟩; refine ⟨_, rfl, ?_⟩; (try (rw [drewN_self w38]; generalize hq_ : World.drewN w38 _ = w38; have n0_ : Aside0 (Kd.R Kd.string 9 w38 w.heap.size (fun _ => True) (.slice (some ad536) t533.length co39) t533) := ⟨by rw [← hq_]; exact (uR HO535.out)⟩; have n1_ : Aside0 (w38.heap[gb532]? = some (.cells #[.int .i64 0, .string (⟨#[]⟩ : ByteArray), .int .i64 0, .bool false] 45 (0, 0))) := ⟨by rw [← hq_]; exact (uB BK532.out)⟩; have n2_ : Aside0 (Below w.heap.size w w38) := ⟨by rw [← hq_]; exact bl⟩; clear HO535 BK532 HB hq_; have HO535 := n0_; have BK532 := n1_; have HB := n2_; clear n0_ n1_ n2_)); have p539 : 0 ≤ (1 : Int) := (by omega); have q539 : 1 < (t533.length : Int) := od; obtain ⟨ad539, e539, hx539_0⟩ := Kd.at_string (Kd.R_reads' HO535.out).2.2 1 p539 q539; obtain rfl : ad536 = ad539 := (by injection e539); (try simp only [show (1 : Int).toNat = 1 from rfl, Nat.reduceMul, Nat.reduceEqDiff, Go.Addr.add, ↓reduceIte] at hx539_0); have qi539 : (1 < t533.length) = True := eq_true (by omega); (try rw [show ((1 : Int)).toNat = 1 from rfl] at hx539_0); replace p539 := eq_true p539; replace q539 := eq_true q539) | (refine gL (some 28) rfl Tryz.func51 #[.string (rdOf ByteArray.empty t533 1)] ?_; (with_reducible refine (r08_group.calls k (rdOf ByteArray.empty t533 1) t540 _ A8.out).mono ?_); rintro e w40 ⟨rfl, hb⟩; refine ⟨_, rfl, ?_⟩; replace HO535 := cR HO535 hb; replace BK532 := cB BK532 hb; replace HB := Aside0.mk (below_step bl hb); (try clear hb); obtain ⟨hcz41_0, hcz41_1, hcz41_2, hcz41_3, hfz41_0, hfz41_1, hfz41_2, hfz41_3⟩ := z4 BK532))
    refine bodyPost_ret (results_ct rfl _ _ gb532 45 #[.int .i64 0, .string (⟨#[]⟩ : ByteArray), .int .i64 0, .bool false] (0, 0) _ rfl (by (with_reducible repeat (first | refine blk_drewN ?_ _ | refine blk_drew ?_ | refine blk_alloc ?_ _)); refine blk_put (cs := #[.int .i64 0, .string (⟨#[]⟩ : ByteArray), .int .i64 0, .bool false]) ?_ 3 _ rfl; (with_reducible repeat (first | refine blk_drewN ?_ _ | refine blk_drew ?_ | refine blk_alloc ?_ _)); refine blk_put (cs := #[.int .i64 0, .string (⟨#[]⟩ : ByteArray), .int .i64 0, .bool false]) ?_ 2 _ rfl; (with_reducible repeat (first | refine blk_drewN ?_ _ | refine blk_drew ?_ | refine blk_alloc ?_ _)); refine blk_put (cs := #[.int .i64 0, .string (⟨#[]⟩ : ByteArray), .int .i64 0, .bool false]) ?_ 1 _ rfl; (with_reducible repeat (first | refine blk_drewN ?_ _ | refine blk_drew ?_ | refine blk_alloc ?_ _)); refine blk_put (cs := #[.int .i64 0, .string (⟨#[]⟩ : ByteArray), .int .i64 0, .bool false]) ?_ 0 _ rfl; exact uB <| BK532.out) Tryz.underlying45 rfl (by kernel_rfl)) rfl ?_
    exact ⟨re_, bl⟩
  ·
   rw [if_neg c6] at H
   have c6b0 : (t538 == 0) = false := beq_eq_false_iff_ne.mpr c6
   have c6b1 : (t538 != 0) = true := bne_iff_ne.mpr c6
   simp only [Option.some.injEq, Prod.mk.injEq] at H
   obtain ⟨rfl, rfl, rfl, rfl, rfl⟩ := H
   go_enter Tryz.func43, Tryz.ntmps43
   go_wp2_with (first | ((with_reducible refine gate_dst (N := 2) rfl ?_); refine bx (N := 2) #[.int .i64 0, .string (⟨#[]⟩ : ByteArray), .int .i64 0, .bool false] 45 ?_; intro gb532 hg w42 hbox hb; have BK532 := Aside0.mk (hbox); have GW532 := gw hg (uW HB.out); have GE532 := GW532; replace HB := cW HB hb; clear hb hbox hg) | (refine gL (some 9) rfl Tryz.func41 #[.string a0, .int .u8 124] ?_; (with_reducible refine (r02_Split.calls k a0 124 t533 _ A2.out).mono ?_); rintro e w43 ⟨v534, rfl, ho0, hb⟩; refine ⟨_, rfl, ?_⟩; have HO535 := Aside0.mk (Kd.R_lower ho0 (below_size bl)); replace BK532 := cB BK532 hb; replace HB := Aside0.mk (below_step bl hb); (try clear hb); (try clear ho0); obtain ⟨Ao44, co44, eo44⟩ := Kd.R_slice HO535.out; subst eo44; have p536 : 0 ≤ (0 : Int) := (by omega); have q536 : 0 < (t533.length : Int) := od; obtain ⟨ad536, e536, hx536_0⟩ := Kd.at_string (Kd.R_reads' HO535.out).2.2 0 p536 q536; cases e536; have qi536 : (0 < t533.length) = True := eq_true (by omega); (try rw [show ((0 : Int)).toNat = 0 from rfl] at hx536_0); (try rw [Addr.add_zero'] at hx536_0); replace p536 := eq_true p536; replace q536 := eq_true q536) | (refine gL (some 18) rfl Tryz.func60 #[.string (rdOf ByteArray.empty t533 0)] ?_; (with_reducible refine (r01_Read.calls k (rdOf ByteArray.empty t533 0) t537 t538 _ A5.out).mono ?_); rintro e w' ⟨rfl, ⟨nd, rfl⟩⟩; refine ⟨_, rfl, ?_⟩; (try (rw [drewN_self w43]; generalize hq_ : World.drewN w43 _ = w43; have n0_ : Aside0 (Kd.R Kd.string 9 w43 w.heap.size (fun _ => True) (.slice (some ad536) t533.length co44) t533) := ⟨by rw [← hq_]; exact (uR HO535.out)⟩; have n1_ : Aside0 (w43.heap[gb532]? = some (.cells #[.int .i64 0, .string (⟨#[]⟩ : ByteArray), .int .i64 0, .bool false] 45 (0, 0))) := ⟨by rw [← hq_]; exact (uB BK532.out)⟩; have n2_ : Aside0 (Below w.heap.size w w43) := ⟨by rw [← hq_]; exact bl⟩; clear HO535 BK532 HB hq_; have HO535 := n0_; have BK532 := n1_; have HB := n2_; clear n0_ n1_ n2_)); obtain ⟨hcz45_0, hcz45_1, hcz45_2, hcz45_3, hfz45_0, hfz45_1, hfz45_2, hfz45_3⟩ := z4 BK532))
   refine bodyPost_ret (results_ct rfl _ _ gb532 45 #[.int .i64 0, .string (⟨#[]⟩ : ByteArray), .int .i64 0, .bool false] (0, 0) _ rfl (by (with_reducible repeat (first | refine blk_drewN ?_ _ | refine blk_drew ?_ | refine blk_alloc ?_ _)); refine blk_put (cs := #[.int .i64 0, .string (⟨#[]⟩ : ByteArray), .int .i64 0, .bool false]) ?_ 3 _ rfl; (with_reducible repeat (first | refine blk_drewN ?_ _ | refine blk_drew ?_ | refine blk_alloc ?_ _)); refine blk_put (cs := #[.int .i64 0, .string (⟨#[]⟩ : ByteArray), .int .i64 0, .bool false]) ?_ 2 _ rfl; (with_reducible repeat (first | refine blk_drewN ?_ _ | refine blk_drew ?_ | refine blk_alloc ?_ _)); refine blk_put (cs := #[.int .i64 0, .string (⟨#[]⟩ : ByteArray), .int .i64 0, .bool false]) ?_ 1 _ rfl; (with_reducible repeat (first | refine blk_drewN ?_ _ | refine blk_drew ?_ | refine blk_alloc ?_ _)); refine blk_put (cs := #[.int .i64 0, .string (⟨#[]⟩ : ByteArray), .int .i64 0, .bool false]) ?_ 0 _ rfl; exact uB <| BK532.out) Tryz.underlying45 rfl (by kernel_rfl)) rfl ?_
   exact ⟨re_, bl⟩
 ·
  rw [if_neg c3] at H
  have c3b0 : ((t533.length : Int) == 3) = false := beq_eq_false_iff_ne.mpr c3
  have c3b1 : ((t533.length : Int) != 3) = true := bne_iff_ne.mpr c3
  simp only [Option.some.injEq, Prod.mk.injEq] at H
  obtain ⟨rfl, rfl, rfl, rfl, rfl⟩ := H
  go_enter Tryz.func43, Tryz.ntmps43
  go_wp2_with (first | ((with_reducible refine gate_dst (N := 2) rfl ?_); refine bx (N := 2) #[.int .i64 0, .string (⟨#[]⟩ : ByteArray), .int .i64 0, .bool false] 45 ?_; intro gb532 hg w46 hbox hb; have BK532 := Aside0.mk (hbox); have GW532 := gw hg (uW HB.out); have GE532 := GW532; replace HB := cW HB hb; clear hb hbox hg) | (refine gL (some 9) rfl Tryz.func41 #[.string a0, .int .u8 124] ?_; (with_reducible refine (r02_Split.calls k a0 124 t533 _ A2.out).mono ?_); rintro e w47 ⟨v534, rfl, ho0, hb⟩; refine ⟨_, rfl, ?_⟩; have HO535 := Aside0.mk (Kd.R_lower ho0 (below_size bl)); replace BK532 := cB BK532 hb; replace HB := Aside0.mk (below_step bl hb); (try clear hb); (try clear ho0); obtain ⟨Ao48, co48, eo48⟩ := Kd.R_slice HO535.out; subst eo48; obtain ⟨hcz49_0, hcz49_1, hcz49_2, hcz49_3, hfz49_0, hfz49_1, hfz49_2, hfz49_3⟩ := z4 BK532))
  refine bodyPost_ret (results_ct rfl _ _ gb532 45 #[.int .i64 0, .string (⟨#[]⟩ : ByteArray), .int .i64 0, .bool false] (0, 0) _ rfl (by (with_reducible repeat (first | refine blk_drewN ?_ _ | refine blk_drew ?_ | refine blk_alloc ?_ _)); refine blk_put (cs := #[.int .i64 0, .string (⟨#[]⟩ : ByteArray), .int .i64 0, .bool false]) ?_ 3 _ rfl; (with_reducible repeat (first | refine blk_drewN ?_ _ | refine blk_drew ?_ | refine blk_alloc ?_ _)); refine blk_put (cs := #[.int .i64 0, .string (⟨#[]⟩ : ByteArray), .int .i64 0, .bool false]) ?_ 2 _ rfl; (with_reducible repeat (first | refine blk_drewN ?_ _ | refine blk_drew ?_ | refine blk_alloc ?_ _)); refine blk_put (cs := #[.int .i64 0, .string (⟨#[]⟩ : ByteArray), .int .i64 0, .bool false]) ?_ 1 _ rfl; (with_reducible repeat (first | refine blk_drewN ?_ _ | refine blk_drew ?_ | refine blk_alloc ?_ _)); refine blk_put (cs := #[.int .i64 0, .string (⟨#[]⟩ : ByteArray), .int .i64 0, .bool false]) ?_ 0 _ rfl; exact uB <| BK532.out) Tryz.underlying45 rfl (by kernel_rfl)) rfl ?_
  exact ⟨re_, bl⟩
def r08_Parse.l0 : Nat → List (S45) → List ByteArray → Int → Option ((List (S45)) × Int)
 | 0, _, _, _ => none
 | k + 1, x4, x5, x6 => if x6 < (x5.length : Int) then (if 0 ≤ x6 then ((r08_one.f k (rdOf ByteArray.empty x5 x6)).bind fun bt551 => (if bt551.2.2.2.2 = 0 then (if x4.length < 3518437208883 then (r08_Parse.l0 k (x4 ++ [(⟨bt551.1, bt551.2.1, (⟨bt551.2.2.1, bt551.2.2.2.1⟩ : S43)⟩ : S45)]) x5 (wrap64 (x6 + 1))) else (none)) else (some (([] : List (S45)), bt551.2.2.2.2)))) else (none)) else ((r08_rise.f k x4).bind fun t560 => (if t560 = true then (some (x4, 0)) else (some (([] : List (S45)), 9))))
def r08_Parse.f (k : Nat) (a0 : ByteArray) : Option ((List (S45)) × Int) := if a0.toList = ([45] : List UInt8) then (some (([] : List (S45)), 0)) else ((r02_Split.f k a0 59).bind fun t547 => (r08_Parse.l0 k ([] : List (S45)) t547 0))
theorem r08_Parse.mono_l : ∀ k, (∀ y0 y1 y2, LeC (r08_Parse.l0 k y0 y1 y2) (r08_Parse.l0 (k + 1) y0 y1 y2))
 | 0 => fun _ _ _ => ⟨fun r h => by simp [r08_Parse.l0] at h⟩
 | k + 1 => by have ih0 := r08_Parse.mono_l k; exact fun _ _ _ => by unfold r08_Parse.l0; exact lm
theorem r08_Parse.mono : ∀ a0 k, LeO (r08_Parse.f k a0) (r08_Parse.f (k + 1) a0) := by
 intro a0 k
 have ih0 := r08_Parse.mono_l k
 unfold r08_Parse.f
 exact lo
instance r08_Parse.mI {a0 k} : LeC (r08_Parse.f k a0) (r08_Parse.f (k + 1) a0) := ⟨r08_Parse.mono _ _⟩
theorem r08_Parse.calls (k : Nat) (a0 : ByteArray) (r1 : List (S45)) (r2 : Int) (w : World) (h : r08_Parse.f k a0 = some (r1, r2)) :
 Calls Tryz.prog 23 #[.string a0] w fun e w' => ∃ v0_ : Value, e = .returned (.tuple #[v0_, .int .i64 r2]) ∧ Kd.R k45 45 w' w.heap.size (fun _ => True) v0_ r1 ∧ Below w.heap.size w w' := by
 have hu45 := Tryz.underlying45
 have HB := Aside0.mk (Below.refl w.heap.size w)
 have H : (if a0.toList = ([45] : List UInt8) then (some (([] : List (S45)), 0)) else ((r02_Split.f k a0 59).bind fun t547 => (r08_Parse.l0 k ([] : List (S45)) t547 0))) = some (r1, r2) := h
 clear h
 by_cases c2 : a0.toList = ([45] : List UInt8)
 ·
  rw [if_pos c2] at H
  have c2b0 : (a0.toList == ([45] : List UInt8)) = true := beq_iff_eq.mpr c2
  have c2b1 : (a0.toList != ([45] : List UInt8)) = false := bne_eq_false_iff_eq.mpr c2
  clear c2
  simp only [Option.some.injEq, Prod.mk.injEq] at H
  obtain ⟨rfl, rfl⟩ := H
  go_enter Tryz.func23, Tryz.ntmps23
  go_wp2
  go_ret2
  exact ⟨_, re_, nl_, uW HB.out⟩
 ·
  rw [if_neg c2] at H
  have c2b0 : (a0.toList == ([45] : List UInt8)) = false := beq_eq_false_iff_ne.mpr c2
  have c2b1 : (a0.toList != ([45] : List UInt8)) = true := bne_iff_ne.mpr c2
  obtain ⟨t547, A3, H⟩ := bs H
  try dsimp only at H
  have H' := Aside0.mk H
  clear H
  go_enter Tryz.func23, Tryz.ntmps23
  go_wp2_with (first | (refine gL (some 12) rfl Tryz.func41 #[.string a0, .int .u8 59] ?_; (with_reducible refine (r02_Split.calls k a0 59 t547 _ A3.out).mono ?_); rintro e w4 ⟨v548, rfl, ho0, hb⟩; refine ⟨_, rfl, ?_⟩; have HO549 := Aside0.mk (Kd.R_lower ho0 (below_size (uW HB.out))); replace HB := cW HB hb; (try clear hb); (try clear ho0)))
  (try simp only [Act.put, List.setIfInBounds_toArray, List.set_cons_zero, List.set_cons_succ])
  go_loopg [4, 6] k (fun kq v4 v6 w' => ∃ (x4_1 : List (S45)) (x6_1 : Int), v6 = .int .i64 x6_1 ∧ Aside0 (r08_Parse.l0 kq x4_1 t547 x6_1 = some (r1, r2)) ∧ Aside0 (kq ≤ k) ∧ Aside0 (Kd.R k45 45 w' w.heap.size (fun _ => True) v4 x4_1) ∧ Aside0 (Kd.R Kd.string 9 w' w.heap.size (fun _ => True) v548 t547) ∧ Aside0 (Below w.heap.size w w'))
  case atStart => exact ⟨(([] : List (S45))), (0), rs_, H', ⟨Nat.le_refl _⟩, ⟨nl_⟩, ⟨uR HO549.out⟩, ⟨uW HB.out⟩⟩
  case round =>
   clear H'
   try clear c2
   try clear c2b0
   try clear c2b1
   try clear p2
   try clear c4
   obtain ⟨x4_1, x6_1, rfl, HA, HK1, HO_4, HO_5, HB⟩ := hrel
   cases gk with
   | zero => exact absurd HA.out (by simp [r08_Parse.l0])
   | succ k1 =>
    have H := HA.out
    clear HA
    simp only [r08_Parse.l0] at H
    by_cases c5 : x6_1 < (t547.length : Int)
    ·
     rw [if_pos c5] at H
     have c5b0 : decide (x6_1 < (t547.length : Int)) = true := decide_eq_true c5
     clear c5
     obtain ⟨c6b0, H⟩ := gdd H
     obtain ⟨⟨t551, t552, t553, t554, t555⟩, A7, H⟩ := bs H
     try dsimp only at H
     by_cases c8 : t555 = 0
     ·
      rw [if_pos c8] at H
      have c8b0 : (t555 == 0) = true := beq_iff_eq.mpr c8
      have c8b1 : (t555 != 0) = false := bne_eq_false_iff_eq.mpr c8
      clear c8
      obtain ⟨c9, H⟩ := gd H
      have LMc9 := Aside0.mk c9
      clear c9
      obtain ⟨y557, hy557⟩ : ∃ y_ : List (S45), y_ = (x4_1 ++ [(⟨t551, t552, (⟨t553, t554⟩ : S43)⟩ : S45)]) := ⟨_, rfl⟩
      replace H : (r08_Parse.l0 k1 y557 t547 (wrap64 (x6_1 + 1))) = some (r1, r2) := by first | (rw [hy557]; with_reducible exact H) | (have H2_ := (Option.bind_some _ _).symm.trans H; rw [hy557]; with_reducible exact H2_) | (have H2_ := (Option.bind_some _ _).symm.trans H; with_reducible exact H2_) | with_reducible exact H | (rw [hy557]; exact H) | exact H
      have Ny557 := Aside0.mk hy557
      clear hy557
      have H' := Aside0.mk H
      clear H
      obtain ⟨Ao10, co10, eo10⟩ := Kd.R_slice HO_5.out
      subst eo10
      have p550 : 0 ≤ (x6_1 : Int) := od
      have q550 : x6_1 < (t547.length : Int) := od
      obtain ⟨ad550, e550, hx550_0⟩ := Kd.at_string (Kd.R_reads' HO_5.out).2.2 x6_1 p550 q550
      cases e550
      replace p550 := eq_true p550
      replace q550 := eq_true q550
      go_wp2_with (first | (refine gL (some 24) rfl Tryz.func43 #[.string (rdOf ByteArray.empty t547 x6_1)] ?_; (with_reducible refine (r08_one.calls k1 (rdOf ByteArray.empty t547 x6_1) t551 t552 t553 t554 t555 _ A7.out).mono ?_); rintro e w11 ⟨rfl, hb⟩; refine ⟨_, rfl, ?_⟩; replace HO_4 := cR HO_4 hb; replace HO_5 := cR HO_5 hb; replace HB := cW HB hb; (try clear hb)) | ((with_reducible refine gate_dst (N := 7) rfl ?_); refine bx (N := 7) #[.int .i64 0, .string (⟨#[]⟩ : ByteArray), .int .i64 0, .bool false] 45 ?_; intro gb556 hg w12 hbox hb; replace HO_4 := Aside0.mk (Kd.R_below (Kd.R_elderB (uR HO_4.out) gb556 (Nat.le_of_eq hg.symm)) hb); replace HO_5 := cR HO_5 hb; have BK556 := Aside0.mk (hbox); have GW556 := gw hg (uW HB.out); have GE556 := GW556; replace HB := cW HB hb; clear hb hbox hg; obtain ⟨hcz13_0, hcz13_1, hcz13_2, hcz13_3, hfz13_0, hfz13_1, hfz13_2, hfz13_3⟩ := z4 BK556) | ((with_reducible refine gate_builtin (b := .append) (xs := #[.tmp 30, .tmp 32]) rfl ?_); at_builtin; refine Kd.R_append k45 (w0 := w) w.heap.size rfl (.tmp 30) (.tmp 32) 22 45 (.agg #[(.int .i64 0), (.string ⟨#[]⟩), (.int .i64 0), (.bool false)]) 40 rfl Tryz.underlying22 info45 rfl (by decide) (by omega) u4 x4_1 (⟨t551, t552, (⟨t553, t554⟩ : S43)⟩ : S45) [.int .i64 t551, .string t552, .int .i64 t553, .bool t554] (fun k_ => k_ ≠ gb556) (fun _ => False) rfl (by first | (go_simp; done) | (go_simp; rfl)) ?aP (fun _ hk => hk.elim) ?aF ?aO ?aB ?aS ?aL ?_; (case aP => exact k45_mkM _ _ _ (⟨t551, t552, (⟨t553, t554⟩ : S43)⟩ : S45)); (case aB => exact bl); (case aF => exact (fun k_ hk => Kd.freshB (g := gb556) (o := .cells #[.int .i64 t551, .string t552, .int .i64 t553, .bool t554] 45 (0, 0)) (by (with_reducible repeat (first | refine blk_drewN ?_ _ | refine blk_drew ?_ | refine blk_alloc ?_ _)); refine blk_put (cs := #[.int .i64 t551, .string t552, .int .i64 t553, .bool false]) ?_ 3 _ rfl; (with_reducible repeat (first | refine blk_drewN ?_ _ | refine blk_drew ?_ | refine blk_alloc ?_ _)); refine blk_put (cs := #[.int .i64 t551, .string t552, .int .i64 0, .bool false]) ?_ 2 _ rfl; (with_reducible repeat (first | refine blk_drewN ?_ _ | refine blk_drew ?_ | refine blk_alloc ?_ _)); refine blk_put (cs := #[.int .i64 t551, .string (⟨#[]⟩ : ByteArray), .int .i64 0, .bool false]) ?_ 1 _ rfl; (with_reducible repeat (first | refine blk_drewN ?_ _ | refine blk_drew ?_ | refine blk_alloc ?_ _)); refine blk_put (cs := #[.int .i64 0, .string (⟨#[]⟩ : ByteArray), .int .i64 0, .bool false]) ?_ 0 _ rfl; exact uB <| BK556.out) k_ hk)); (case aO => exact (by exact uR <| Kd.R_mono (Kd.R_far (p := ⟨gb556, 3, none⟩) (Kd.R_far (p := ⟨gb556, 2, none⟩) (Kd.R_far (p := ⟨gb556, 1, none⟩) (Kd.R_far (p := ⟨gb556, 0, none⟩) (Kd.R_mono HO_4.out (fun k_ hk => (⟨hk, hk.2⟩ : _ ∧ k_ ≠ gb556))) (fun _ hk => hk.2) (.int .i64 t551)) (fun _ hk => hk.2) (.string t552)) (fun _ hk => hk.2) (.int .i64 t553)) (fun _ hk => hk.2) (.bool t554)) (fun _ hk => hk.1.2))); (case aS => exact (below_size bl)); (case aL => have := LMc9.out; omega); intro v558 w14 ho hb hg hat; rw [← Ny557.out] at ho; replace HO_5 := Aside0.mk (Kd.R_over' (by exact uR <| (Kd.R_mono (Kd.R_far (p := ⟨gb556, 3, none⟩) (Kd.R_far (p := ⟨gb556, 2, none⟩) (Kd.R_far (p := ⟨gb556, 1, none⟩) (Kd.R_far (p := ⟨gb556, 0, none⟩) (Kd.R_types HO_5.out BK556.out (by decide)) (fun _ hk => hk.2) (.int .i64 t551)) (fun _ hk => hk.2) (.string t552)) (fun _ hk => hk.2) (.int .i64 t553)) (fun _ hk => hk.2) (.bool t554)) (fun _ h_ => h_.1))) (Kd.R_typed (by exact uR <| (Kd.R_mono (Kd.R_far (p := ⟨gb556, 3, none⟩) (Kd.R_far (p := ⟨gb556, 2, none⟩) (Kd.R_far (p := ⟨gb556, 1, none⟩) (Kd.R_far (p := ⟨gb556, 0, none⟩) (Kd.R_mono HO_4.out (fun k_ hk => (⟨hk, hk.2⟩ : _ ∧ k_ ≠ gb556))) (fun _ hk => hk.2) (.int .i64 t551)) (fun _ hk => hk.2) (.string t552)) (fun _ hk => hk.2) (.int .i64 t553)) (fun _ hk => hk.2) (.bool t554)) (fun _ h_ => h_.1)))) (by decide) hg); replace BK556 := Aside0.mk (blk_grown (g := gb556) (o := .cells #[.int .i64 t551, .string t552, .int .i64 t553, .bool t554] 45 (0, 0)) (by (with_reducible repeat (first | refine blk_drewN ?_ _ | refine blk_drew ?_ | refine blk_alloc ?_ _)); refine blk_put (cs := #[.int .i64 t551, .string t552, .int .i64 t553, .bool false]) ?_ 3 _ rfl; (with_reducible repeat (first | refine blk_drewN ?_ _ | refine blk_drew ?_ | refine blk_alloc ?_ _)); refine blk_put (cs := #[.int .i64 t551, .string t552, .int .i64 0, .bool false]) ?_ 2 _ rfl; (with_reducible repeat (first | refine blk_drewN ?_ _ | refine blk_drew ?_ | refine blk_alloc ?_ _)); refine blk_put (cs := #[.int .i64 t551, .string (⟨#[]⟩ : ByteArray), .int .i64 0, .bool false]) ?_ 1 _ rfl; (with_reducible repeat (first | refine blk_drewN ?_ _ | refine blk_drew ?_ | refine blk_alloc ?_ _)); refine blk_put (cs := #[.int .i64 0, .string (⟨#[]⟩ : ByteArray), .int .i64 0, .bool false]) ?_ 0 _ rfl; exact uB <| BK556.out) hg (Kd.R_away HO_4.out (fun _ hk => hk.2))); replace HB := Aside0.mk (hb); have HO559 := Aside0.mk (ho); clear HO_4; clear ho hb hg hat))
      go_roundg k1
      case measure => have := HK1.out; omega
      case rel => exact ⟨(y557), (wrap64 (x6_1 + 1)), rs_, H', ⟨by have := HK1.out; omega⟩, ⟨by exact uR <| Kd.R_mono HO559.out (fun _ hk => trivial)⟩, ⟨uR HO_5.out⟩, ⟨bl⟩⟩
     ·
      rw [if_neg c8] at H
      have c8b0 : (t555 == 0) = false := beq_eq_false_iff_ne.mpr c8
      have c8b1 : (t555 != 0) = true := bne_iff_ne.mpr c8
      simp only [Option.some.injEq, Prod.mk.injEq] at H
      obtain ⟨rfl, rfl⟩ := H
      obtain ⟨Ao15, co15, eo15⟩ := Kd.R_slice HO_5.out
      subst eo15
      have p550 : 0 ≤ (x6_1 : Int) := od
      have q550 : x6_1 < (t547.length : Int) := od
      obtain ⟨ad550, e550, hx550_0⟩ := Kd.at_string (Kd.R_reads' HO_5.out).2.2 x6_1 p550 q550
      cases e550
      replace p550 := eq_true p550
      replace q550 := eq_true q550
      go_wp2_with (first | (refine gL (some 24) rfl Tryz.func43 #[.string (rdOf ByteArray.empty t547 x6_1)] ?_; (with_reducible refine (r08_one.calls k1 (rdOf ByteArray.empty t547 x6_1) t551 t552 t553 t554 t555 _ A7.out).mono ?_); rintro e w16 ⟨rfl, hb⟩; refine ⟨_, rfl, ?_⟩; replace HO_4 := cR HO_4 hb; replace HO_5 := cR HO_5 hb; replace HB := cW HB hb; (try clear hb)) | ((with_reducible refine gate_dst (N := 7) rfl ?_); refine bx (N := 7) #[.int .i64 0, .string (⟨#[]⟩ : ByteArray), .int .i64 0, .bool false] 45 ?_; intro gb556 hg w17 hbox hb; replace HO_4 := Aside0.mk (Kd.R_below (Kd.R_elderB (uR HO_4.out) gb556 (Nat.le_of_eq hg.symm)) hb); replace HO_5 := cR HO_5 hb; have BK556 := Aside0.mk (hbox); have GW556 := gw hg (uW HB.out); have GE556 := GW556; replace HB := cW HB hb; clear hb hbox hg; obtain ⟨hcz18_0, hcz18_1, hcz18_2, hcz18_3, hfz18_0, hfz18_1, hfz18_2, hfz18_3⟩ := z4 BK556))
      go_ret2
      exact ⟨_, re_, nl_, bl⟩
    ·
     rw [if_neg c5] at H
     have c5b0 : decide (x6_1 < (t547.length : Int)) = false := decide_eq_false c5
     clear c5
     obtain ⟨t560, A19, H⟩ := bs H
     try dsimp only at H
     by_cases c20 : t560 = true
     ·
      subst c20
      rw [if_pos rfl] at H
      simp only [Option.some.injEq, Prod.mk.injEq] at H
      obtain ⟨rfl, rfl⟩ := H
      obtain ⟨Ao21, co21, eo21⟩ := Kd.R_slice HO_5.out
      subst eo21
      obtain ⟨Ao22, co22, eo22⟩ := Kd.R_slice HO_4.out
      subst eo22
      go_wp2_with (first | (refine gL (some 35) rfl Tryz.func44 #[.slice Ao22 x4_1.length co22] ?_; (with_reducible refine (r08_rise.calls k1 _ _ x4_1 true _ ?side1 ?side2 A19.out).mono ?_); (case side1 => exact uC <| (Kd.R_reads' HO_4.out).2.2); (case side2 => exact (Kd.R_reads' HO_4.out).2.1); rintro e w23 ⟨rfl, hb⟩; refine ⟨_, rfl, ?_⟩; replace HO_4 := cR HO_4 hb; replace HO_5 := cR HO_5 hb; replace HB := cW HB hb; (try clear hb)))
      go_ret2
      exact ⟨_, re_, uR HO_4.out, uW HB.out⟩
     ·
      replace c20 := Bool.eq_false_iff.mpr c20
      subst c20
      rw [if_neg (show ¬ (false = true) by decide)] at H
      simp only [Option.some.injEq, Prod.mk.injEq] at H
      obtain ⟨rfl, rfl⟩ := H
      obtain ⟨Ao24, co24, eo24⟩ := Kd.R_slice HO_5.out
      subst eo24
      obtain ⟨Ao25, co25, eo25⟩ := Kd.R_slice HO_4.out
      subst eo25
      go_wp2_with (first | (refine gL (some 35) rfl Tryz.func44 #[.slice Ao25 x4_1.length co25] ?_; (with_reducible refine (r08_rise.calls k1 _ _ x4_1 false _ ?side1 ?side2 A19.out).mono ?_); (case side1 => exact uC <| (Kd.R_reads' HO_4.out).2.2); (case side2 => exact (Kd.R_reads' HO_4.out).2.1); rintro e w26 ⟨rfl, hb⟩; refine ⟨_, rfl, ?_⟩; replace HO_4 := cR HO_4 hb; replace HO_5 := cR HO_5 hb; replace HB := cW HB hb; (try clear hb)))
      go_ret2
      exact ⟨_, re_, nl_, uW HB.out⟩
end Go.Proofs.YtgcbejidponoaaaGreatDoor.X
