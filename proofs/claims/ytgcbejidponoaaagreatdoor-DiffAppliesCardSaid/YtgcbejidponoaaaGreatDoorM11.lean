/- Printed by a program of this session's own: what functions of the program compute, and that the machine computes it. No condition of its own. -/
import Derived.Test.YtgcbejidponoaaaGreatDoorM3
import Derived.Test.YtgcbejidponoaaaGreatDoorM9
import Derived.Test.YtgcbejidponoaaaGreatDoorM10
import Derived.Test.YtgcbejidponoaaaGreatDoorM6
import Derived.Test.YtgcbejidponoaaaGreatDoorM8
import Derived.Test.YtgcbejidponoaaaGreatDoorM5
import Derived.Test.YtgcbejidponoaaaGreatDoorM7
namespace Go.Proofs.YtgcbejidponoaaaGreatDoor.X
open Go.RowKit Go.Proofs.YtgcbejidponoaaaGreatDoorW.PrintWords Go.Proofs.YtgcbejidponoaaaGreatDoorW.PrintLast Go.Proofs.YtgcbejidponoaaaGreatDoorW.PrintMore
attribute [local go_sem] max2_int min2_int max_two min_two max_three min_three max_four min_four
set_option linter.unusedVariables false
set_option linter.unusedSimpArgs false
set_option maxHeartbeats 8000000
set_option maxRecDepth 100000
theorem r01_Read.wtd {a : Int} (h0 : -9223372036854775808 ≤ a) (h1 : a ≤ 9223372036854775807) : wrap64 (Int.tdiv a 10) = Int.tdiv a 10 := by
 have e : Int.tdiv a 10 = if 0 ≤ a then a / 10 else -((-a) / 10) := by
  split
  ·
   rename_i h; exact Int.tdiv_eq_ediv_of_nonneg h
  ·
   rename_i h
   have h2 : Int.tdiv a 10 = -(Int.tdiv (-a) 10) := by rw [Int.neg_tdiv, Int.neg_neg]
   rw [h2, Int.tdiv_eq_ediv_of_nonneg (by omega)]
 rw [e]
 unfold wrap64
 split <;> omega
mutual
def r01_Read.j0 : Nat → ByteArray → ByteArray → Bool → Option (Int × Int)
 | 0, _, _, _ => none
 | k + 1, x0, x4, x17 => if x17 = true then (none) else (if (x4.size : Int) = 0 then (r01_Read.j1 k x0 x4 true) else (if 0 < (x4.size : Int) then (if (bt x4 0) = 48 then (r01_Read.j1 k x0 x4 (decide ((x0.size : Int) > 1))) else (r01_Read.j1 k x0 x4 false)) else (none)))
def r01_Read.j1 : Nat → ByteArray → ByteArray → Bool → Option (Int × Int)
 | 0, _, _, _ => none
 | k + 1, x0, x4, x32 => if x32 = true then (none) else (r01_Read.l0 k x0 x4 0)
def r01_Read.l0 : Nat → ByteArray → ByteArray → Int → Option (Int × Int)
 | 0, _, _, _ => none
 | k + 1, x0, x4, x5 => if x5 < (x4.size : Int) then (if 0 ≤ x5 then (if (bt x4 x5) < 48 then (none) else (if (bt x4 x5) > 57 then (none) else (r01_Read.l0 k x0 x4 (wrap64 (x5 + 1))))) else (none)) else (r01_Read.l1 k x0 x4 0 0)
def r01_Read.l1 : Nat → ByteArray → ByteArray → Int → Int → Option (Int × Int)
 | 0, _, _, _, _ => none
 | k + 1, x0, x4, x6, x7 => if x7 < (x4.size : Int) then (if 0 ≤ x7 then (if x6 < (wrap64 (Int.tdiv ((-9223372036854775808) + (((bt x4 x7) - 48) % 256)) 10)) then (none) else (r01_Read.l1 k x0 x4 (wrap64 ((wrap64 (10 * x6)) - (((bt x4 x7) - 48) % 256))) (wrap64 (x7 + 1)))) else (none)) else (if (x4.size : Int) < (x0.size : Int) then (none) else (if x6 = (-9223372036854775808) then (none) else (some (wrap64 (-x6), 0))))
end
def r01_Read.f (k : Nat) (a0 : ByteArray) : Option (Int × Int) := if (a0.size : Int) > 1 then (if 0 < (a0.size : Int) then (r01_Read.j0 k a0 a0 ((bt a0 0) == 45)) else (none)) else (r01_Read.j0 k a0 a0 false)
theorem r01_Read.mono_l : ∀ k, (∀ y0 y1 y2, LeC (r01_Read.j0 k y0 y1 y2) (r01_Read.j0 (k + 1) y0 y1 y2)) ∧ (∀ y0 y1 y2, LeC (r01_Read.j1 k y0 y1 y2) (r01_Read.j1 (k + 1) y0 y1 y2)) ∧ (∀ y0 y1 y2, LeC (r01_Read.l0 k y0 y1 y2) (r01_Read.l0 (k + 1) y0 y1 y2)) ∧ (∀ y0 y1 y2 y3, LeC (r01_Read.l1 k y0 y1 y2 y3) (r01_Read.l1 (k + 1) y0 y1 y2 y3))
 | 0 => ⟨fun _ _ _ => ⟨fun r h => by simp [r01_Read.j0] at h⟩, fun _ _ _ => ⟨fun r h => by simp [r01_Read.j1] at h⟩, fun _ _ _ => ⟨fun r h => by simp [r01_Read.l0] at h⟩, fun _ _ _ _ => ⟨fun r h => by simp [r01_Read.l1] at h⟩⟩
 | k + 1 => by obtain ⟨ih0, ih1, ih2, ih3⟩ := r01_Read.mono_l k; exact ⟨fun _ _ _ => by unfold r01_Read.j0; exact lm, fun _ _ _ => by unfold r01_Read.j1; exact lm, fun _ _ _ => by unfold r01_Read.l0; exact lm, fun _ _ _ _ => by unfold r01_Read.l1; exact lm⟩
theorem r01_Read.mono : ∀ a0 k, LeO (r01_Read.f k a0) (r01_Read.f (k + 1) a0) := by
 intro a0 k
 obtain ⟨ih0, ih1, ih2, ih3⟩ := r01_Read.mono_l k
 unfold r01_Read.f
 exact lo
instance r01_Read.mI {a0 k} : LeC (r01_Read.f k a0) (r01_Read.f (k + 1) a0) := ⟨r01_Read.mono _ _⟩
theorem r01_Read.calls (k : Nat) (a0 : ByteArray) (r1 : Int) (r2 : Int) (w : World) (h : r01_Read.f k a0 = some (r1, r2)) :
 Calls Tryz.prog 60 #[.string a0] w fun e w' => e = .returned (.tuple #[.int .i64 r1, .int .i64 r2]) ∧ Drawn0 w w' := by
 have H : (if (a0.size : Int) > 1 then (if 0 < (a0.size : Int) then (r01_Read.j0 k a0 a0 ((bt a0 0) == 45)) else (none)) else (r01_Read.j0 k a0 a0 false)) = some (r1, r2) := h
 clear h
 have HC2 := Aside0.mk H
 clear H
 go_enter Tryz.func60, Tryz.ntmps60
 go_upto_region 2 with (fail)
 go_cut [17] (fun v17 wc => ∃ (kq : Nat) (x17_1 : Bool), v17 = .bool x17_1 ∧ Aside0 (r01_Read.j0 kq a0 a0 x17_1 = some (r1, r2)) ∧ Aside0 (kq ≤ k) ∧ Drawn0 w wc)
 case first =>
  have H := HC2.out
  clear HC2
  by_cases c3 : (a0.size : Int) > 1
  ·
   rw [if_pos c3] at H
   have c3b0 : decide (1 < (a0.size : Int)) = true := decide_eq_true c3
   have c3b1 : decide (1 < a0.size) = true := decide_eq_true (by omega)
   clear c3
   (first | rw [c3b0] | (simp only [i64_w, i32_w]; rw [c3b0]) | skip)
   obtain ⟨c4, H⟩ := gd H
   have c4b0 : decide (0 < (a0.size : Int)) = true := decide_eq_true c4
   have c4b1 : decide (0 < a0.size) = true := decide_eq_true (by omega)
   clear c4
   have H' := Aside0.mk H
   clear H
   have p5 : 0 ≤ (0 : Int) := (by omega)
   have q5 : 0 < a0.size := (by have : (0 : Int) < (a0.size : Int) := od; omega)
   have hx5 : ∀ h : 0 < a0.size, ((a0[0]'h).toNat : Int) = bt a0 0 := bt_at a0 0
   clear p5
   have qi5 : (0 < (a0.size : Int)) = True := eq_true (od)
   replace q5 := eq_true q5
   go_wp2
   go_meet
   case rel => exact ⟨_, (((bt a0 0) == 45)), rs_, H', ⟨by first | omega | exact Nat.le_refl _⟩, dr_⟩
  ·
   rw [if_neg c3] at H
   have c3b0 : decide (1 < (a0.size : Int)) = false := decide_eq_false c3
   have c3b1 : decide (1 < a0.size) = false := decide_eq_false (by omega)
   clear c3
   (first | rw [c3b0] | (simp only [i64_w, i32_w]; rw [c3b0]) | skip)
   have H' := Aside0.mk H
   clear H
   go_wp2
   go_meet
   case rel => exact ⟨_, (false), rs_, H', ⟨by first | omega | exact Nat.le_refl _⟩, dr_⟩
 case rest =>
  clear HC2
  try clear p2
  try clear c3
  try clear c3b0
  try clear c3b1
  try clear c4
  try clear c4b0
  try clear c4b1
  try clear p5
  try clear q5
  try clear hx5
  try clear qi5
  try clear p5
  try clear q5
  obtain ⟨kq, x17_1, rfl, HA, HJ1, ⟨mc1, rfl⟩⟩ := hcut
  cases kq with
  | zero => exact absurd HA.out (by simp [r01_Read.j0])
  | succ kj1 =>
   have H := HA.out
   clear HA
   simp only [r01_Read.j0] at H
   by_cases c6 : x17_1 = true
   ·
    subst c6
    rw [if_pos rfl] at H
    exact absurd H (by simp)
   ·
    replace c6 := Bool.eq_false_iff.mpr c6
    subst c6
    rw [if_neg (show ¬ (false = true) by decide)] at H
    have HC7 := Aside0.mk H
    clear H
    go_upto_region 4 with (fail)
    go_cut [32] (fun v32 wc => ∃ (kq : Nat) (x32_6 : Bool), v32 = .bool x32_6 ∧ Aside0 (r01_Read.j1 kq a0 a0 x32_6 = some (r1, r2)) ∧ Aside0 (kq ≤ kj1) ∧ Drawn0 w wc)
    case first =>
     have H := HC7.out
     clear HC7
     by_cases c8 : (a0.size : Int) = 0
     ·
      rw [if_pos c8] at H
      have c8b0 : ((a0.size : Int) == 0) = true := beq_iff_eq.mpr c8
      have c8b1 : ((a0.size : Int) != 0) = false := bne_eq_false_iff_eq.mpr c8
      clear c8
      (first | rw [c8b0] | (simp only [i64_w, i32_w]; rw [c8b0]) | skip)
      have H' := Aside0.mk H
      clear H
      go_wp2
      go_meet
      case rel => exact ⟨_, (true), rs_, H', ⟨by have := HJ1.out; first | omega | exact Nat.le_refl _⟩, dr_⟩
     ·
      rw [if_neg c8] at H
      have c8b0 : ((a0.size : Int) == 0) = false := beq_eq_false_iff_ne.mpr c8
      have c8b1 : ((a0.size : Int) != 0) = true := bne_iff_ne.mpr c8
      (first | rw [c8b0] | (simp only [i64_w, i32_w]; rw [c8b0]) | skip)
      obtain ⟨c9, H⟩ := gd H
      have c9b0 : decide (0 < (a0.size : Int)) = true := decide_eq_true c9
      have c9b1 : decide (0 < a0.size) = true := decide_eq_true (by omega)
      clear c9
      by_cases c11 : (bt a0 0) = 48
      ·
       rw [if_pos c11] at H
       have c11b0 : ((bt a0 0) == 48) = true := beq_iff_eq.mpr c11
       have c11b1 : ((bt a0 0) != 48) = false := bne_eq_false_iff_eq.mpr c11
       clear c11
       have H' := Aside0.mk H
       clear H
       have p10 : 0 ≤ (0 : Int) := (by omega)
       have q10 : 0 < a0.size := (by have : (0 : Int) < (a0.size : Int) := od; omega)
       have hx10 : ∀ h : 0 < a0.size, ((a0[0]'h).toNat : Int) = bt a0 0 := bt_at a0 0
       clear p10
       have qi10 : (0 < (a0.size : Int)) = True := eq_true (od)
       replace q10 := eq_true q10
       go_wp2
       go_meet
       case rel => exact ⟨_, (decide ((a0.size : Int) > 1)), rs_, H', ⟨by have := HJ1.out; first | omega | exact Nat.le_refl _⟩, dr_⟩
      ·
       rw [if_neg c11] at H
       have c11b0 : ((bt a0 0) == 48) = false := beq_eq_false_iff_ne.mpr c11
       have c11b1 : ((bt a0 0) != 48) = true := bne_iff_ne.mpr c11
       have H' := Aside0.mk H
       clear H
       have p10 : 0 ≤ (0 : Int) := (by omega)
       have q10 : 0 < a0.size := (by have : (0 : Int) < (a0.size : Int) := od; omega)
       have hx10 : ∀ h : 0 < a0.size, ((a0[0]'h).toNat : Int) = bt a0 0 := bt_at a0 0
       clear p10
       have qi10 : (0 < (a0.size : Int)) = True := eq_true (od)
       replace q10 := eq_true q10
       go_wp2
       go_meet
       case rel => exact ⟨_, (false), rs_, H', ⟨by have := HJ1.out; first | omega | exact Nat.le_refl _⟩, dr_⟩
    case rest =>
     clear HC7
     try clear c1
     try clear p1
     try clear q1
     try clear hx1
     try clear qi1
     try clear p2
     try clear c3
     try clear c3b0
     try clear c3b1
     try clear c4
     try clear c4b0
     try clear c4b1
     try clear p5
     try clear q5
     try clear hx5
     try clear qi5
     try clear c6
     try clear c8
     try clear c8b0
     try clear c8b1
     try clear c9
     try clear c9b0
     try clear c9b1
     try clear p10
     try clear q10
     try clear hx10
     try clear qi10
     try clear c11
     try clear c11b0
     try clear c11b1
     try clear p10
     try clear p2
     try clear p5
     try clear q10
     try clear q5
     obtain ⟨kq, x32_6, rfl, HA, HJ6, ⟨mc6, rfl⟩⟩ := hcut
     cases kq with
     | zero => exact absurd HA.out (by simp [r01_Read.j1])
     | succ kj6 =>
      have H := HA.out
      clear HA
      simp only [r01_Read.j1] at H
      by_cases c12 : x32_6 = true
      ·
       subst c12
       rw [if_pos rfl] at H
       exact absurd H (by simp)
      ·
       replace c12 := Bool.eq_false_iff.mpr c12
       subst c12
       rw [if_neg (show ¬ (false = true) by decide)] at H
       have H' := Aside0.mk H
       clear H
       go_wp2
       go_loopg [5] kj6 (fun kq v5 w' => ∃ (x5_3 : Int), v5 = .int .i64 x5_3 ∧ Aside0 (r01_Read.l0 kq a0 a0 x5_3 = some (r1, r2)) ∧ Aside0 (kq ≤ kj6) ∧ Drawn0 w w')
       case atStart => exact ⟨(0), rs_, H', ⟨Nat.le_refl _⟩, dr_⟩
       case round =>
        clear H'
        try clear c1
        try clear p1
        try clear q1
        try clear hx1
        try clear qi1
        try clear p2
        try clear c3
        try clear c3b0
        try clear c3b1
        try clear c4
        try clear c4b0
        try clear c4b1
        try clear p5
        try clear q5
        try clear hx5
        try clear qi5
        try clear c6
        try clear c8
        try clear c8b0
        try clear c8b1
        try clear c9
        try clear c9b0
        try clear c9b1
        try clear p10
        try clear q10
        try clear hx10
        try clear qi10
        try clear c11
        try clear c11b0
        try clear c11b1
        try clear c12
        try clear p1
        try clear p10
        try clear p2
        try clear p5
        try clear q1
        try clear q10
        try clear q5
        obtain ⟨x5_3, rfl, HA, HK3, ⟨m3, rfl⟩⟩ := hrel
        cases gk with
        | zero => exact absurd HA.out (by simp [r01_Read.l0])
        | succ k3 =>
         have H := HA.out
         clear HA
         simp only [r01_Read.l0] at H
         by_cases c13 : x5_3 < (a0.size : Int)
         ·
          rw [if_pos c13] at H
          have c13b0 : decide (x5_3 < (a0.size : Int)) = true := decide_eq_true c13
          clear c13
          obtain ⟨c14b0, H⟩ := gdd H
          obtain ⟨c16b0, H⟩ := gnn H
          obtain ⟨c18b0, H⟩ := gnn H
          have H' := Aside0.mk H
          clear H
          have p15 : 0 ≤ (x5_3 : Int) := od
          have q15 : x5_3 < (a0.size : Int) := od
          have hx15 := bt_at a0 x5_3
          replace p15 := eq_true p15
          replace q15 := eq_true q15
          have p17 : 0 ≤ (x5_3 : Int) := od
          have q17 : x5_3 < (a0.size : Int) := od
          have hx17 := bt_at a0 x5_3
          replace p17 := eq_true p17
          replace q17 := eq_true q17
          go_wp2
          go_roundg k3
          case measure => have := HJ1.out; have := HJ6.out; have := HK3.out; omega
          case rel => exact ⟨(wrap64 (x5_3 + 1)), rs_, H', ⟨by have := HJ1.out; have := HJ6.out; have := HK3.out; omega⟩, dr_⟩
         ·
          rw [if_neg c13] at H
          have c13b0 : decide (x5_3 < (a0.size : Int)) = false := decide_eq_false c13
          clear c13
          have H' := Aside0.mk H
          clear H
          go_wp2
          go_loopg [6, 7] k3 (fun kq v6 v7 w' => ∃ (x6_4 : Int) (x7_4 : Int), v6 = .int .i64 x6_4 ∧ v7 = .int .i64 x7_4 ∧ Aside0 (r01_Read.l1 kq a0 a0 x6_4 x7_4 = some (r1, r2)) ∧ Aside0 (kq ≤ k3) ∧ Drawn0 w w')
          case atStart => exact ⟨(0), (0), rs_, rs_, H', ⟨Nat.le_refl _⟩, dr_⟩
          case round =>
           clear H'
           try clear c1
           try clear p1
           try clear q1
           try clear hx1
           try clear qi1
           try clear p2
           try clear c3
           try clear c3b0
           try clear c3b1
           try clear c4
           try clear c4b0
           try clear c4b1
           try clear p5
           try clear q5
           try clear hx5
           try clear qi5
           try clear c6
           try clear p6
           try clear c8
           try clear c8b0
           try clear c8b1
           try clear c9
           try clear c9b0
           try clear c9b1
           try clear p10
           try clear q10
           try clear hx10
           try clear qi10
           try clear c11
           try clear c11b0
           try clear c11b1
           try clear c12
           try clear c13
           try clear c13b0
           try clear c14
           try clear c14b0
           try clear p15
           try clear q15
           try clear hx15
           try clear c16
           try clear c16b0
           try clear p17
           try clear q17
           try clear hx17
           try clear c18
           try clear c18b0
           try clear p1
           try clear p10
           try clear p15
           try clear p17
           try clear p2
           try clear p5
           try clear q1
           try clear q10
           try clear q15
           try clear q17
           try clear q5
           obtain ⟨x6_4, x7_4, rfl, rfl, HA, HK4, ⟨m4, rfl⟩⟩ := hrel
           cases gk with
           | zero => exact absurd HA.out (by simp [r01_Read.l1])
           | succ k4 =>
            have H := HA.out
            clear HA
            simp only [r01_Read.l1] at H
            by_cases c19 : x7_4 < (a0.size : Int)
            ·
             rw [if_pos c19] at H
             have c19b0 : decide (x7_4 < (a0.size : Int)) = true := decide_eq_true c19
             clear c19
             obtain ⟨c20b0, H⟩ := gdd H
             obtain ⟨c22, H⟩ := gn H
             have c22b0 : decide (x6_4 < (wrap64 (Int.tdiv ((-9223372036854775808) + (((bt a0 x7_4) - 48) % 256)) 10))) = false := decide_eq_false c22
             have c22b7 : decide (x6_4 < Int.tdiv ((-9223372036854775808) + (((bt a0 x7_4) - 48) % 256)) 10) = false := by rw [← r01_Read.wtd (a := ((-9223372036854775808) + (((bt a0 x7_4) - 48) % 256))) (by omega) (by omega)]; exact c22b0
             clear c22
             have H' := Aside0.mk H
             clear H
             have p21 : 0 ≤ (x7_4 : Int) := od
             have q21 : x7_4 < (a0.size : Int) := od
             have hx21 := bt_at a0 x7_4
             replace p21 := eq_true p21
             replace q21 := eq_true q21
             go_wp2
             go_roundg k4
             case measure => have := HJ1.out; have := HJ6.out; have := HK3.out; have := HK4.out; omega
             case rel => exact ⟨(wrap64 ((wrap64 (10 * x6_4)) - (((bt a0 x7_4) - 48) % 256))), (wrap64 (x7_4 + 1)), rs_, rs_, H', ⟨by have := HJ1.out; have := HJ6.out; have := HK3.out; have := HK4.out; omega⟩, dr_⟩
            ·
             rw [if_neg c19] at H
             have c19b0 : decide (x7_4 < (a0.size : Int)) = false := decide_eq_false c19
             clear c19
             obtain ⟨c23, H⟩ := gn H
             have c23b0 : decide ((a0.size : Int) < (a0.size : Int)) = false := decide_eq_false c23
             have c23b1 : decide (a0.size < a0.size) = false := decide_eq_false (fun h => c23 (Int.ofNat_lt.mpr h))
             clear c23
             obtain ⟨c24, H⟩ := gn H
             have c24b0 : (x6_4 == (-9223372036854775808)) = false := beq_eq_false_iff_ne.mpr c24
             have c24b1 : (x6_4 != (-9223372036854775808)) = true := bne_iff_ne.mpr c24
             simp only [Option.some.injEq, Prod.mk.injEq] at H
             obtain ⟨rfl, rfl⟩ := H
             go_wp2
             go_ret2
             exact ⟨rs_, dr_⟩
def r01_Parse.j0 : Nat → ByteArray → Bool → Option (Int × Bool × Int)
 | 0, _, _ => none
 | k + 1, x0, x4 => if x4 = true then (none) else ((r01_Read.f k x0).bind fun bt520 => (if bt520.2 = 0 then (some (bt520.1, x4, 0)) else (none)))
def r01_Parse.f (k : Nat) (a0 : ByteArray) : Option (Int × Bool × Int) := if (a0.size : Int) > 0 then (if 0 ≤ (wrap64 ((a0.size : Int) - 1)) then (if (wrap64 ((a0.size : Int) - 1)) < (a0.size : Int) then (r01_Parse.j0 k a0 ((bt a0 (wrap64 ((a0.size : Int) - 1))) == 33)) else (none)) else (none)) else (r01_Parse.j0 k a0 false)
theorem r01_Parse.mono_l : ∀ k, (∀ y0 y1, LeC (r01_Parse.j0 k y0 y1) (r01_Parse.j0 (k + 1) y0 y1))
 | 0 => fun _ _ => ⟨fun r h => by simp [r01_Parse.j0] at h⟩
 | k + 1 => by have ih0 := r01_Parse.mono_l k; exact fun _ _ => by unfold r01_Parse.j0; exact lm
theorem r01_Parse.mono : ∀ a0 k, LeO (r01_Parse.f k a0) (r01_Parse.f (k + 1) a0) := by
 intro a0 k
 have ih0 := r01_Parse.mono_l k
 unfold r01_Parse.f
 exact lo
instance r01_Parse.mI {a0 k} : LeC (r01_Parse.f k a0) (r01_Parse.f (k + 1) a0) := ⟨r01_Parse.mono _ _⟩
theorem r01_Parse.calls (k : Nat) (a0 : ByteArray) (r1 : Int) (r2 : Bool) (r3 : Int) (w : World) (h : r01_Parse.f k a0 = some (r1, r2, r3)) :
 Calls Tryz.prog 63 #[.string a0] w fun e w' => e = .returned (.tuple #[.agg #[.int .i64 r1, .bool r2], .int .i64 r3]) ∧ Below w.heap.size w w' := by
 have hu43 := Tryz.underlying43
 have HB := Aside0.mk (Below.refl w.heap.size w)
 have H : (if (a0.size : Int) > 0 then (if 0 ≤ (wrap64 ((a0.size : Int) - 1)) then (if (wrap64 ((a0.size : Int) - 1)) < (a0.size : Int) then (r01_Parse.j0 k a0 ((bt a0 (wrap64 ((a0.size : Int) - 1))) == 33)) else (none)) else (none)) else (r01_Parse.j0 k a0 false)) = some (r1, r2, r3) := h
 clear h
 have HC2 := Aside0.mk H
 clear H
 go_enter Tryz.func63, Tryz.ntmps63
 go_upto_region 1 with (first | ((with_reducible refine gate_dst (N := 2) rfl ?_); (try (refine gate_guard (by rfl) ?_; dsimp only)); refine bx (N := 2) #[.int .i64 0, .bool false] 43 ?_; intro gb519 hg w3 hbox hb; have BK519 := Aside0.mk (hbox); have GW519 := gw hg (uW HB.out); have GE519 := GW519; replace HB := cW HB hb; clear hb hbox hg))
 (try simp only [Act.put, List.setIfInBounds_toArray, List.set_cons_zero, List.set_cons_succ])
 go_cut [4] (fun v4 wc => ∃ (kq : Nat) (x4_1 : Bool), v4 = .bool x4_1 ∧ Aside0 (r01_Parse.j0 kq a0 x4_1 = some (r1, r2, r3)) ∧ Aside0 (kq ≤ k) ∧ Aside0 (wc.heap[gb519]? = some (.cells #[.int .i64 0, .bool false] 43 (0, 0))) ∧ Aside0 (Below w.heap.size w wc))
 case first =>
  have H := HC2.out
  clear HC2
  by_cases c4 : (a0.size : Int) > 0
  ·
   rw [if_pos c4] at H
   have c4b0 : decide (0 < (a0.size : Int)) = true := decide_eq_true c4
   have c4b1 : decide (0 < a0.size) = true := decide_eq_true (by omega)
   clear c4
   (first | rw [c4b0] | (simp only [i64_w, i32_w]; rw [c4b0]) | skip)
   obtain ⟨ji5, hji5⟩ : ∃ j_ : Int, (wrap64 ((a0.size : Int) - 1)) = j_ := ⟨_, rfl⟩
   (first | rw [hji5] at H | simp only [hji5] at H)
   have hji5w : (IntKind.i64.wrap ((a0.size : Int) - 1)) = ji5 := (i64_w _).trans hji5
   obtain ⟨c6b0, H⟩ := gdd H
   obtain ⟨c7b0, H⟩ := gdd H
   have H' := Aside0.mk H
   clear H
   have p8 : 0 ≤ ((ji5) : Int) := od
   have q8 : (ji5) < (a0.size : Int) := od
   have hx8 := bt_at a0 (ji5)
   replace p8 := eq_true p8
   replace q8 := eq_true q8
   go_wp2
   go_meet
   case rel => exact ⟨_, (((bt a0 (ji5)) == 33)), (by first | rfl | (simp; done) | (simp only [← hji5] <;> (first | rfl | simp)) | (simp [*]; done)), H', ⟨by first | omega | exact Nat.le_refl _⟩, ⟨uB BK519.out⟩, ⟨bl⟩⟩
  ·
   rw [if_neg c4] at H
   have c4b0 : decide (0 < (a0.size : Int)) = false := decide_eq_false c4
   have c4b1 : decide (0 < a0.size) = false := decide_eq_false (by omega)
   clear c4
   (first | rw [c4b0] | (simp only [i64_w, i32_w]; rw [c4b0]) | skip)
   have H' := Aside0.mk H
   clear H
   go_wp2
   go_meet
   case rel => exact ⟨_, (false), rs_, H', ⟨by first | omega | exact Nat.le_refl _⟩, ⟨uB BK519.out⟩, ⟨bl⟩⟩
 case rest =>
  clear HC2
  try clear p2
  try clear c4
  try clear c4b0
  try clear c4b1
  try clear c6
  try clear c6b0
  try clear p6
  try clear c7
  try clear c7b0
  try clear p8
  try clear q8
  try clear hx8
  try clear p8
  try clear q8
  obtain ⟨kq, x4_1, rfl, HA, HJ1, BK519, HB⟩ := hcut
  cases kq with
  | zero => exact absurd HA.out (by simp [r01_Parse.j0])
  | succ kj1 =>
   have H := HA.out
   clear HA
   simp only [r01_Parse.j0] at H
   by_cases c9 : x4_1 = true
   ·
    subst c9
    rw [if_pos rfl] at H
    exact absurd H (by simp)
   ·
    replace c9 := Bool.eq_false_iff.mpr c9
    subst c9
    rw [if_neg (show ¬ (false = true) by decide)] at H
    obtain ⟨⟨t520, t521⟩, A10, H⟩ := bs H
    try dsimp only at H
    by_cases c11 : t521 = 0
    ·
     rw [if_pos c11] at H
     have c11b0 : (t521 == 0) = true := beq_iff_eq.mpr c11
     have c11b1 : (t521 != 0) = false := bne_eq_false_iff_eq.mpr c11
     clear c11
     simp only [Option.some.injEq, Prod.mk.injEq] at H
     obtain ⟨rfl, rfl, rfl⟩ := H
     go_wp2_with (first | (refine gL (some 26) rfl Tryz.func60 #[.string a0] ?_; (with_reducible refine (r01_Read.calls kj1 a0 t520 t521 _ A10.out).mono ?_); rintro e w' ⟨rfl, ⟨nd, rfl⟩⟩; refine ⟨_, rfl, ?_⟩; (try (rw [drewN_self wc]; generalize hq_ : World.drewN wc _ = wc; have n0_ : Aside0 (wc.heap[gb519]? = some (.cells #[.int .i64 0, .bool false] 43 (0, 0))) := ⟨by rw [← hq_]; exact (uB BK519.out)⟩; have n1_ : Aside0 (Below w.heap.size w wc) := ⟨by rw [← hq_]; exact bl⟩; clear BK519 HB hq_; have BK519 := n0_; have HB := n1_; clear n0_ n1_)); obtain ⟨hcz12_0, hcz12_1, hfz12_0, hfz12_1⟩ := z2 BK519))
     refine bodyPost_ret (results_ct rfl _ _ gb519 43 #[.int .i64 t520, .bool false] (0, 0) _ rfl (by (with_reducible repeat (first | refine blk_drewN ?_ _ | refine blk_drew ?_ | refine blk_alloc ?_ _)); refine blk_put (cs := #[.int .i64 t520, .bool false]) ?_ 1 _ rfl; (with_reducible repeat (first | refine blk_drewN ?_ _ | refine blk_drew ?_ | refine blk_alloc ?_ _)); refine blk_put (cs := #[.int .i64 0, .bool false]) ?_ 0 _ rfl; exact uB <| BK519.out) Tryz.underlying43 rfl (by kernel_rfl)) rfl ?_
     exact ⟨re_, bl⟩
    ·
     rw [if_neg c11] at H
     exact absurd H (by simp)
def r08_one.f (k : Nat) (a0 : ByteArray) : Option (Int × ByteArray × Int × Bool × Int) := (r02_Split.f k a0 124).bind fun t523 => (if (t523.length : Int) = 3 then (if 0 < (t523.length : Int) then ((r01_Read.f k (rdOf ByteArray.empty t523 0)).bind fun bt527 => (if bt527.2 = 0 then (if 1 < (t523.length : Int) then ((r08_group.f k (rdOf ByteArray.empty t523 1)).bind fun t530 => (if t530 = 0 then (if 2 < (t523.length : Int) then ((r01_Parse.f k (rdOf ByteArray.empty t523 2)).bind fun bt532 => (if bt532.2.2 = 0 then (some (bt527.1, rdOf ByteArray.empty t523 1, bt532.1, bt532.2.1, 0)) else (none))) else (none)) else (none))) else (none)) else (none))) else (none)) else (none))
theorem r08_one.mono : ∀ a0 k, LeO (r08_one.f k a0) (r08_one.f (k + 1) a0) := by
 intro a0 k
 unfold r08_one.f
 exact lo
instance r08_one.mI {a0 k} : LeC (r08_one.f k a0) (r08_one.f (k + 1) a0) := ⟨r08_one.mono _ _⟩
def r08_one.T13 : Bool × List (List Nat × List Nat) := (true, [([], []), ([], []), ([1], [1]), ([2], [2]), ([], []), ([0, 3, 4], [0, 3, 4]), ([5, 0, 1, 2, 3, 4, 5], [5]), ([6, 0, 1, 2, 3, 4, 5, 6], [])])
def r08_one.B13 : List Nat := [0, 0, 2, 6, 0, 31, 63, 127]
theorem r08_one.tab13 : rtab .any (opsOf Tryz.f43 13) = r08_one.T13 := by kernel_rfl
theorem r08_one.bits13 : waitsOk r08_one.T13.2 r08_one.B13 = true := by kernel_rfl
theorem r08_one.calls (k : Nat) (a0 : ByteArray) (r1 : Int) (r2 : ByteArray) (r3 : Int) (r4 : Bool) (r5 : Int) (w : World) (h : r08_one.f k a0 = some (r1, r2, r3, r4, r5)) :
 Calls Tryz.prog 43 #[.string a0] w fun e w' => e = .returned (.tuple #[.agg #[.int .i64 r1, .string r2, .int .i64 r3, .bool r4], .int .i64 r5]) ∧ Below w.heap.size w w' := by
 have hu45 := Tryz.underlying45
 have hu43 := Tryz.underlying43
 have HB := Aside0.mk (Below.refl w.heap.size w)
 have H : ((r02_Split.f k a0 124).bind fun t523 => (if (t523.length : Int) = 3 then (if 0 < (t523.length : Int) then ((r01_Read.f k (rdOf ByteArray.empty t523 0)).bind fun bt527 => (if bt527.2 = 0 then (if 1 < (t523.length : Int) then ((r08_group.f k (rdOf ByteArray.empty t523 1)).bind fun t530 => (if t530 = 0 then (if 2 < (t523.length : Int) then ((r01_Parse.f k (rdOf ByteArray.empty t523 2)).bind fun bt532 => (if bt532.2.2 = 0 then (some (bt527.1, rdOf ByteArray.empty t523 1, bt532.1, bt532.2.1, 0)) else (none))) else (none)) else (none))) else (none)) else (none))) else (none)) else (none))) = some (r1, r2, r3, r4, r5) := h
 clear h
 obtain ⟨t523, A2, H⟩ := bs H
 try dsimp only at H
 by_cases c3 : (t523.length : Int) = 3
 ·
  rw [if_pos c3] at H
  have c3b0 : ((t523.length : Int) == 3) = true := beq_iff_eq.mpr c3
  have c3b1 : ((t523.length : Int) != 3) = false := bne_eq_false_iff_eq.mpr c3
  clear c3
  obtain ⟨c4, H⟩ := gd H
  have c4b0 : decide (0 < (t523.length : Int)) = true := decide_eq_true c4
  have c4b1 : decide (0 < t523.length) = true := decide_eq_true (by omega)
  clear c4
  obtain ⟨⟨t527, t528⟩, A5, H⟩ := bs H
  try dsimp only at H
  obtain ⟨c6, H⟩ := gd H
  have c6b0 : (t528 == 0) = true := beq_iff_eq.mpr c6
  have c6b1 : (t528 != 0) = false := bne_eq_false_iff_eq.mpr c6
  clear c6
  obtain ⟨c7, H⟩ := gd H
  have c7b0 : decide (1 < (t523.length : Int)) = true := decide_eq_true c7
  have c7b1 : decide (1 < t523.length) = true := decide_eq_true (by omega)
  clear c7
  obtain ⟨t530, A8, H⟩ := bs H
  try dsimp only at H
  obtain ⟨c9, H⟩ := gd H
  have c9b0 : (t530 == 0) = true := beq_iff_eq.mpr c9
  have c9b1 : (t530 != 0) = false := bne_eq_false_iff_eq.mpr c9
  clear c9
  obtain ⟨c10, H⟩ := gd H
  have c10b0 : decide (2 < (t523.length : Int)) = true := decide_eq_true c10
  have c10b1 : decide (2 < t523.length) = true := decide_eq_true (by omega)
  clear c10
  obtain ⟨⟨t532, t533, t534⟩, A11, H⟩ := bs H
  try dsimp only at H
  obtain ⟨c12, H⟩ := gd H
  have c12b0 : (t534 == 0) = true := beq_iff_eq.mpr c12
  have c12b1 : (t534 != 0) = false := bne_eq_false_iff_eq.mpr c12
  clear c12
  simp only [Option.some.injEq, Prod.mk.injEq] at H
  obtain ⟨rfl, rfl, rfl, rfl, rfl⟩ := H
  go_enter Tryz.func43, Tryz.ntmps43
  try go_wp2_with (first | ((with_reducible refine gate_dst (N := 2) rfl ?_); refine bx (N := 2) #[.int .i64 0, .string (⟨#[]⟩ : ByteArray), .int .i64 0, .bool false] 45 ?_; intro gb522 hg w13 hbox hb; have BK522 := Aside0.mk (hbox); have GW522 := gw hg (uW HB.out); have GE522 := GW522; replace HB := cW HB hb; clear hb hbox hg) | (refine gL (some 9) rfl Tryz.func41 #[.string a0, .int .u8 124] ?_; (with_reducible refine (r02_Split.calls k a0 124 t523 _ A2.out).mono ?_); rintro e w14 ⟨v524, rfl, ho0, hb⟩; refine ⟨_, rfl, ?_⟩; have HO525 := Aside0.mk (Kd.R_lower ho0 (below_size bl)); replace BK522 := cB BK522 hb; replace HB := Aside0.mk (below_step bl hb); (try clear hb); (try clear ho0); obtain ⟨Ao15, co15, eo15⟩ := Kd.R_slice HO525.out; subst eo15; have p526 : 0 ≤ (0 : Int) := (by omega); have q526 : 0 < (t523.length : Int) := od; obtain ⟨ad526, e526, hx526_0⟩ := Kd.at_string (Kd.R_reads' HO525.out).2.2 0 p526 q526; cases e526; have qi526 : (0 < t523.length) = True := eq_true (by omega); (try rw [show ((0 : Int)).toNat = 0 from rfl] at hx526_0); (try rw [Addr.add_zero'] at hx526_0); replace p526 := eq_true p526; replace q526 := eq_true q526) | (refine gL (some 18) rfl Tryz.func60 #[.string (rdOf ByteArray.empty t523 0)] ?_; (with_reducible refine (r01_Read.calls k (rdOf ByteArray.empty t523 0) t527 t528 _ A5.out).mono ?_); rintro e w' ⟨rfl, ⟨nd, rfl⟩⟩; refine ⟨_, rfl, ?_⟩; (try (rw [drewN_self w14]; generalize hq_ : World.drewN w14 _ = w14; have n0_ : Aside0 (Kd.R Kd.string 9 w14 w.heap.size (fun _ => True) (.slice (some ad526) t523.length co15) t523) := ⟨by rw [← hq_]; exact (uR HO525.out)⟩; have n1_ : Aside0 (w14.heap[gb522]? = some (.cells #[.int .i64 0, .string (⟨#[]⟩ : ByteArray), .int .i64 0, .bool false] 45 (0, 0))) := ⟨by rw [← hq_]; exact (uB BK522.out)⟩; have n2_ : Aside0 (Below w.heap.size w w14) := ⟨by rw [← hq_]; exact bl⟩; clear HO525 BK522 HB hq_; have HO525 := n0_; have BK522 := n1_; have HB := n2_; clear n0_ n1_ n2_)); have p529 : 0 ≤ (1 : Int) := (by omega); have q529 : 1 < (t523.length : Int) := od; obtain ⟨ad529, e529, hx529_0⟩ := Kd.at_string (Kd.R_reads' HO525.out).2.2 1 p529 q529; obtain rfl : ad526 = ad529 := (by injection e529); (try simp only [show (1 : Int).toNat = 1 from rfl, Nat.reduceMul, Nat.reduceEqDiff, Go.Addr.add, ↓reduceIte] at hx529_0); have qi529 : (1 < t523.length) = True := eq_true (by omega); (try rw [show ((1 : Int)).toNat = 1 from rfl] at hx529_0); replace p529 := eq_true p529; replace q529 := eq_true q529) | (refine gL (some 28) rfl Tryz.func51 #[.string (rdOf ByteArray.empty t523 1)] ?_; (with_reducible refine (r08_group.calls k (rdOf ByteArray.empty t523 1) t530 _ A8.out).mono ?_); rintro e w16 ⟨rfl, hb⟩; refine ⟨_, rfl, ?_⟩; replace HO525 := cR HO525 hb; replace BK522 := cB BK522 hb; replace HB := Aside0.mk (below_step bl hb); (try clear hb); have p531 : 0 ≤ (2 : Int) := (by omega); have q531 : 2 < (t523.length : Int) := od; obtain ⟨ad531, e531, hx531_0⟩ := Kd.at_string (Kd.R_reads' HO525.out).2.2 2 p531 q531; obtain rfl : ad526 = ad531 := (by injection e531); (try simp only [show (2 : Int).toNat = 2 from rfl, Nat.reduceMul, Nat.reduceEqDiff, Go.Addr.add, ↓reduceIte] at hx531_0); have qi531 : (2 < t523.length) = True := eq_true (by omega); (try rw [show ((2 : Int)).toNat = 2 from rfl] at hx531_0); replace p531 := eq_true p531; replace q531 := eq_true q531) | (refine gL (some 37) rfl Tryz.func63 #[.string (rdOf ByteArray.empty t523 2)] ?_; (with_reducible refine (r01_Parse.calls k (rdOf ByteArray.empty t523 2) t532 t533 t534 _ A11.out).mono ?_); rintro e w17 ⟨rfl, hb⟩; refine ⟨_, rfl, ?_⟩; replace HO525 := cR HO525 hb; replace BK522 := cB BK522 hb; replace HB := Aside0.mk (below_step bl hb); (try clear hb)) | ((with_reducible refine gate_dst (N := 7) rfl ?_); refine bx (N := 7) #[.int .i64 0, .bool false] 43 ?_; intro gb535 hg w18 hbox hb; replace HO525 := cR HO525 hb; have BK535 := Aside0.mk (hbox); have GW535 := gw hg bl; have GE535 := GW535; replace HB := Aside0.mk (below_step bl hb); have NB522_535 := Aside0.mk ((by rw [hg]; exact Nat.ne_of_lt (blk_lt (g := gb522) (o := .cells #[.int .i64 0, .string (⟨#[]⟩ : ByteArray), .int .i64 0, .bool false] 45 (0, 0)) (uB BK522.out)) : gb522 ≠ gb535)); have NB535_522 := Aside0.mk ((by rw [hg]; exact Nat.ne_of_gt (blk_lt (g := gb522) (o := .cells #[.int .i64 0, .string (⟨#[]⟩ : ByteArray), .int .i64 0, .bool false] 45 (0, 0)) (uB BK522.out)) : gb535 ≠ gb522)); replace BK522 := cB BK522 hb; clear hb hbox hg; have hnb19 := NB535_522.out; have hnc19 := NB522_535.out; obtain ⟨hcz20_0, hcz20_1, hfz20_0, hfz20_1⟩ := z2 BK535))
  have n0_ : Aside0 (Kd.R Kd.string 9 ((w18.setCell ⟨gb535, 0, none⟩ (.int .i64 t532)).setCell ⟨gb535, 1, none⟩ (.bool t533)) w.heap.size (fun _ => True) (.slice (some ad526) t523.length co15) t523) := ⟨by exact uR <| Kd.R_mono (Kd.R_far (p := ⟨gb535, 1, none⟩) (Kd.R_far (p := ⟨gb535, 0, none⟩) (Kd.R_types HO525.out BK535.out (by decide)) (fun _ hk => hk.2) (.int .i64 t532)) (fun _ hk => hk.2) (.bool t533)) (fun _ hk => trivial)⟩
  have n1_ : Aside0 (((w18.setCell ⟨gb535, 0, none⟩ (.int .i64 t532)).setCell ⟨gb535, 1, none⟩ (.bool t533)).heap[gb522]? = some (.cells #[.int .i64 0, .string (⟨#[]⟩ : ByteArray), .int .i64 0, .bool false] 45 (0, 0))) := ⟨by (with_reducible repeat (first | refine blk_drewN ?_ _ | refine blk_drew ?_ | refine blk_alloc ?_ _)); refine blk_far ?_ NB522_535.out _; (with_reducible repeat (first | refine blk_drewN ?_ _ | refine blk_drew ?_ | refine blk_alloc ?_ _)); refine blk_far ?_ NB522_535.out _; exact uB <| BK522.out⟩
  have n2_ : Aside0 (((w18.setCell ⟨gb535, 0, none⟩ (.int .i64 t532)).setCell ⟨gb535, 1, none⟩ (.bool t533)).heap[gb535]? = some (.cells #[.int .i64 t532, .bool t533] 43 (0, 0))) := ⟨by (with_reducible repeat (first | refine blk_drewN ?_ _ | refine blk_drew ?_ | refine blk_alloc ?_ _)); refine blk_put (cs := #[.int .i64 t532, .bool false]) ?_ 1 _ rfl; (with_reducible repeat (first | refine blk_drewN ?_ _ | refine blk_drew ?_ | refine blk_alloc ?_ _)); refine blk_put (cs := #[.int .i64 0, .bool false]) ?_ 0 _ rfl; exact uB <| BK535.out⟩
  have n3_ : Aside0 (Below w.heap.size w ((w18.setCell ⟨gb535, 0, none⟩ (.int .i64 t532)).setCell ⟨gb535, 1, none⟩ (.bool t533))) := ⟨bl⟩
  (try clear HO525)
  (try clear BK522)
  (try clear BK535)
  (try clear HB)
  generalize ((w18.setCell ⟨gb535, 0, none⟩ (.int .i64 t532)).setCell ⟨gb535, 1, none⟩ (.bool t533)) = w21 at n0_ n1_ n2_ n3_ ⊢
  have HO525 := n0_
  have BK522 := n1_
  have BK535 := n2_
  have HB := n3_
  clear n0_ n1_ n2_ n3_
  replace HO525 := Aside0.mk (Kd.R_drew HO525.out)
  replace BK522 := Aside0.mk (blk_drew BK522.out)
  replace BK535 := Aside0.mk (blk_drew BK535.out)
  replace HB := Aside0.mk (below_drew1 HB.out)
  have p536 : 0 ≤ (1 : Int) := (by omega)
  have q536 : 1 < (t523.length : Int) := od
  obtain ⟨ad536, e536, hx536_0⟩ := Kd.at_string (Kd.R_reads' HO525.out).2.2 1 p536 q536
  obtain rfl : ad526 = ad536 := (by injection e536)
  (try simp only [show (1 : Int).toNat = 1 from rfl, Nat.reduceMul, Nat.reduceEqDiff, Go.Addr.add, ↓reduceIte] at hx536_0)
  have qi536 : (1 < t523.length) = True := eq_true (by omega)
  (try rw [show ((1 : Int)).toNat = 1 from rfl] at hx536_0)
  replace p536 := eq_true p536
  replace q536 := eq_true q536
  refine start_ (n := 8) (S := fun w' => w'.cell? ⟨gb535, 0, none⟩ = some (.int .i64 t532) ∧ w'.cell? ⟨gb535, 1, none⟩ = some (.bool t533) ∧ w'.cell? ⟨ad526.block, ad526.off + 1, none⟩ = some (.string (rdOf ByteArray.empty t523 1))) (ds := []) _ (by kernel_rfl) rfl rfl ⟨(blk_cell BK535.out 0).trans rfl, (blk_cell BK535.out 1).trans rfl, hx536_0⟩ (fun hHeld => ?_); refine with_tabW r08_one.tab13 r08_one.bits13 (fun HT_ HW_ => ?_)
  generalize w21.drew = w22 at HO525 BK522 BK535 HB hx536_0 hHeld ⊢
  refine p1 0 (some 44) ?_
  refine p1 1 (some 45) ?_
  refine p1 2 (some 46) ?_
  refine t1 3 (some 47) rfl rfl hHeld (Or.inl ⟨by rfl, by rintro w' ⟨s0, s1, s2⟩; go_simp; with_reducible rfl⟩) ?_
  refine t1 4 (some 48) rfl rfl hHeld (Or.inl ⟨by rfl, by rintro w' ⟨s0, s1, s2⟩; go_simp; with_reducible rfl⟩) ?_
  refine p1 5 (some 49) ?_
  refine o1 6 none rfl rfl (fun K hK => ?_)
  have hs23 : w22.cell? ⟨gb522, 0, none⟩ = some (.int .i64 0) := (blk_cell BK522.out 0).trans rfl
  have hfs23 := blk_frozen BK522.out 0
  have hns23_1 := NB535_522.out
  have hms23_1 := NB522_535.out
  have hs24 : w22.cell? ⟨gb522, 1, none⟩ = some (.string (⟨#[]⟩ : ByteArray)) := (blk_cell BK522.out 1).trans rfl
  have hfs24 := blk_frozen BK522.out 1
  have hns24_1 := NB535_522.out
  have hms24_1 := NB522_535.out
  have hs25 : w22.cell? ⟨gb522, 2, none⟩ = some (.int .i64 0) := (blk_cell BK522.out 2).trans rfl
  have hfs25 := blk_frozen BK522.out 2
  have hns25_1 := NB535_522.out
  have hms25_1 := NB522_535.out
  have hs26 : w22.cell? ⟨gb522, 3, none⟩ = some (.bool false) := (blk_cell BK522.out 3).trans rfl
  have hfs26 := blk_frozen BK522.out 3
  have hns26_1 := NB535_522.out
  have hms26_1 := NB522_535.out
  refine skip_ (w1 := ?_) (by rfl) rfl ?_ ?_
  rotate_left
  ·
   go_simp
   rfl
  refine hK.out _ _ ⟨((cell_far (p := ⟨gb522, _, none⟩) NB535_522.out _).trans (((cell_far (p := ⟨gb522, _, none⟩) NB535_522.out _).trans (((cell_far (p := ⟨gb522, _, none⟩) NB535_522.out _).trans (((cell_far (p := ⟨gb522, _, none⟩) NB535_522.out _).trans (hHeld.1)))))))), ((cell_far (p := ⟨gb522, _, none⟩) NB535_522.out _).trans (((cell_far (p := ⟨gb522, _, none⟩) NB535_522.out _).trans (((cell_far (p := ⟨gb522, _, none⟩) NB535_522.out _).trans (((cell_far (p := ⟨gb522, _, none⟩) NB535_522.out _).trans (hHeld.2.1)))))))), ((cell_far (p := ⟨gb522, _, none⟩) (by first | exact Kd.own_blk (Kd.R_ne HO525.out BK522.out (by decide)) | (rw [add_block]; exact Kd.own_blk (Kd.R_ne HO525.out BK522.out (by decide))) | (show (Addr.add _ _).block ≠ _; rw [add_block]; exact Kd.own_blk (Kd.R_ne HO525.out BK522.out (by decide))) | (dsimp only; exact Kd.own_blk (Kd.R_ne HO525.out BK522.out (by decide)))) _).trans (((cell_far (p := ⟨gb522, _, none⟩) (by first | exact Kd.own_blk (Kd.R_ne HO525.out BK522.out (by decide)) | (rw [add_block]; exact Kd.own_blk (Kd.R_ne HO525.out BK522.out (by decide))) | (show (Addr.add _ _).block ≠ _; rw [add_block]; exact Kd.own_blk (Kd.R_ne HO525.out BK522.out (by decide))) | (dsimp only; exact Kd.own_blk (Kd.R_ne HO525.out BK522.out (by decide)))) _).trans (((cell_far (p := ⟨gb522, _, none⟩) (by first | exact Kd.own_blk (Kd.R_ne HO525.out BK522.out (by decide)) | (rw [add_block]; exact Kd.own_blk (Kd.R_ne HO525.out BK522.out (by decide))) | (show (Addr.add _ _).block ≠ _; rw [add_block]; exact Kd.own_blk (Kd.R_ne HO525.out BK522.out (by decide))) | (dsimp only; exact Kd.own_blk (Kd.R_ne HO525.out BK522.out (by decide)))) _).trans (((cell_far (p := ⟨gb522, _, none⟩) (by first | exact Kd.own_blk (Kd.R_ne HO525.out BK522.out (by decide)) | (rw [add_block]; exact Kd.own_blk (Kd.R_ne HO525.out BK522.out (by decide))) | (show (Addr.add _ _).block ≠ _; rw [add_block]; exact Kd.own_blk (Kd.R_ne HO525.out BK522.out (by decide))) | (dsimp only; exact Kd.own_blk (Kd.R_ne HO525.out BK522.out (by decide)))) _).trans (hHeld.2.2))))))))⟩ (fun hHeld => ?_)
  clear hK K
  refine p1 7 (some 3) ?_
  refine done_ (done_of HT_.out (by kernel_rfl)) ?_
  try go_wp2
  refine bodyPost_ret (results_ct rfl _ _ gb522 45 #[.int .i64 t527, .string (rdOf ByteArray.empty t523 1), .int .i64 t532, .bool t533] (0, 0) _ rfl (by (with_reducible repeat (first | refine blk_drewN ?_ _ | refine blk_drew ?_ | refine blk_alloc ?_ _)); refine blk_put (cs := #[.int .i64 t527, .string (rdOf ByteArray.empty t523 1), .int .i64 t532, .bool false]) ?_ 3 _ rfl; (with_reducible repeat (first | refine blk_drewN ?_ _ | refine blk_drew ?_ | refine blk_alloc ?_ _)); refine blk_put (cs := #[.int .i64 t527, .string (rdOf ByteArray.empty t523 1), .int .i64 0, .bool false]) ?_ 2 _ rfl; (with_reducible repeat (first | refine blk_drewN ?_ _ | refine blk_drew ?_ | refine blk_alloc ?_ _)); refine blk_put (cs := #[.int .i64 t527, .string (⟨#[]⟩ : ByteArray), .int .i64 0, .bool false]) ?_ 1 _ rfl; (with_reducible repeat (first | refine blk_drewN ?_ _ | refine blk_drew ?_ | refine blk_alloc ?_ _)); refine blk_put (cs := #[.int .i64 0, .string (⟨#[]⟩ : ByteArray), .int .i64 0, .bool false]) ?_ 0 _ rfl; exact uB <| BK522.out) Tryz.underlying45 rfl (by kernel_rfl)) rfl ?_
  exact ⟨re_, bl⟩
 ·
  rw [if_neg c3] at H
  exact absurd H (by simp)
def r08_Before.f (a0_0 : Int) (a0_1 : ByteArray) (a0_2 : Int) (a0_3 : Bool) (a1_0 : Int) (a1_1 : ByteArray) (a1_2 : Int) (a1_3 : Bool) : Option (Bool) := if a0_0 < a1_0 then (some true) else (if a0_0 = a1_0 then (some (Op.bytesLess a0_1.toList a1_1.toList)) else (some false))
theorem r08_Before.calls (a0_0 : Int) (a0_1 : ByteArray) (a0_2 : Int) (a0_3 : Bool) (a1_0 : Int) (a1_1 : ByteArray) (a1_2 : Int) (a1_3 : Bool) (r : Bool) (w : World) (h : r08_Before.f a0_0 a0_1 a0_2 a0_3 a1_0 a1_1 a1_2 a1_3 = some r) :
 Calls Tryz.prog 37 #[.agg #[.int .i64 a0_0, .string a0_1, .int .i64 a0_2, .bool a0_3], .agg #[.int .i64 a1_0, .string a1_1, .int .i64 a1_2, .bool a1_3]] w fun e w' => e = .returned (.bool r) ∧ Below w.heap.size w w' := by
 have hu45 := Tryz.underlying45
 have HB := Aside0.mk (Below.refl w.heap.size w)
 have H : (if a0_0 < a1_0 then (some true) else (if a0_0 = a1_0 then (some (Op.bytesLess a0_1.toList a1_1.toList)) else (some false))) = some r := h
 clear h
 by_cases c3 : a0_0 < a1_0
 ·
  rw [if_pos c3] at H
  have c3b0 : decide (a0_0 < a1_0) = true := decide_eq_true c3
  clear c3
  obtain rfl := Option.some.inj H
  go_enter Tryz.func37, Tryz.ntmps37
  go_wp2_with (first | ((with_reducible refine gate_dst (N := 2) rfl ?_); refine bx (N := 2) #[.int .i64 a0_0, .string a0_1, .int .i64 a0_2, .bool a0_3] 45 ?_; intro gb537 hg w4 hbox hb; have BK537 := Aside0.mk (hbox); have GW537 := gw hg (uW HB.out); have GE537 := GW537; replace HB := cW HB hb; clear hb hbox hg) | ((with_reducible refine gate_dst (N := 3) rfl ?_); refine bx (N := 3) #[.int .i64 a1_0, .string a1_1, .int .i64 a1_2, .bool a1_3] 45 ?_; intro gb538 hg w5 hbox hb; have BK538 := Aside0.mk (hbox); have GW538 := gw hg bl; have GE538 := GW538; replace HB := Aside0.mk (below_step bl hb); have NB537_538 := Aside0.mk ((by rw [hg]; exact Nat.ne_of_lt (blk_lt (g := gb537) (o := .cells #[.int .i64 a0_0, .string a0_1, .int .i64 a0_2, .bool a0_3] 45 (0, 0)) (uB BK537.out)) : gb537 ≠ gb538)); have NB538_537 := Aside0.mk ((by rw [hg]; exact Nat.ne_of_gt (blk_lt (g := gb537) (o := .cells #[.int .i64 a0_0, .string a0_1, .int .i64 a0_2, .bool a0_3] 45 (0, 0)) (uB BK537.out)) : gb538 ≠ gb537)); replace BK537 := cB BK537 hb; clear hb hbox hg; have hnb6 := NB537_538.out; have hnc6 := NB538_537.out; obtain ⟨hcz7_0, hcz7_1, hcz7_2, hcz7_3, hfz7_0, hfz7_1, hfz7_2, hfz7_3⟩ := z4 BK537; obtain ⟨hcz8_0, hcz8_1, hcz8_2, hcz8_3, hfz8_0, hfz8_1, hfz8_2, hfz8_3⟩ := z4 BK538))
  go_ret
  exact ⟨re_, bl⟩
 ·
  rw [if_neg c3] at H
  have c3b0 : decide (a0_0 < a1_0) = false := decide_eq_false c3
  clear c3
  by_cases c9 : a0_0 = a1_0
  ·
   rw [if_pos c9] at H
   have c9b0 : (a0_0 == a1_0) = true := beq_iff_eq.mpr c9
   have c9b1 : (a0_0 != a1_0) = false := bne_eq_false_iff_eq.mpr c9
   clear c9
   obtain rfl := Option.some.inj H
   go_enter Tryz.func37, Tryz.ntmps37
   go_wp2_with (first | ((with_reducible refine gate_dst (N := 2) rfl ?_); refine bx (N := 2) #[.int .i64 a0_0, .string a0_1, .int .i64 a0_2, .bool a0_3] 45 ?_; intro gb537 hg w10 hbox hb; have BK537 := Aside0.mk (hbox); have GW537 := gw hg (uW HB.out); have GE537 := GW537; replace HB := cW HB hb; clear hb hbox hg) | ((with_reducible refine gate_dst (N := 3) rfl ?_); refine bx (N := 3) #[.int .i64 a1_0, .string a1_1, .int .i64 a1_2, .bool a1_3] 45 ?_; intro gb538 hg w11 hbox hb; have BK538 := Aside0.mk (hbox); have GW538 := gw hg bl; have GE538 := GW538; replace HB := Aside0.mk (below_step bl hb); have NB537_538 := Aside0.mk ((by rw [hg]; exact Nat.ne_of_lt (blk_lt (g := gb537) (o := .cells #[.int .i64 a0_0, .string a0_1, .int .i64 a0_2, .bool a0_3] 45 (0, 0)) (uB BK537.out)) : gb537 ≠ gb538)); have NB538_537 := Aside0.mk ((by rw [hg]; exact Nat.ne_of_gt (blk_lt (g := gb537) (o := .cells #[.int .i64 a0_0, .string a0_1, .int .i64 a0_2, .bool a0_3] 45 (0, 0)) (uB BK537.out)) : gb538 ≠ gb537)); replace BK537 := cB BK537 hb; clear hb hbox hg; have hnb12 := NB537_538.out; have hnc12 := NB538_537.out; obtain ⟨hcz13_0, hcz13_1, hcz13_2, hcz13_3, hfz13_0, hfz13_1, hfz13_2, hfz13_3⟩ := z4 BK537; obtain ⟨hcz14_0, hcz14_1, hcz14_2, hcz14_3, hfz14_0, hfz14_1, hfz14_2, hfz14_3⟩ := z4 BK538))
   go_ret
   exact ⟨re_, bl⟩
  ·
   rw [if_neg c9] at H
   have c9b0 : (a0_0 == a1_0) = false := beq_eq_false_iff_ne.mpr c9
   have c9b1 : (a0_0 != a1_0) = true := bne_iff_ne.mpr c9
   obtain rfl := Option.some.inj H
   go_enter Tryz.func37, Tryz.ntmps37
   go_wp2_with (first | ((with_reducible refine gate_dst (N := 2) rfl ?_); refine bx (N := 2) #[.int .i64 a0_0, .string a0_1, .int .i64 a0_2, .bool a0_3] 45 ?_; intro gb537 hg w15 hbox hb; have BK537 := Aside0.mk (hbox); have GW537 := gw hg (uW HB.out); have GE537 := GW537; replace HB := cW HB hb; clear hb hbox hg) | ((with_reducible refine gate_dst (N := 3) rfl ?_); refine bx (N := 3) #[.int .i64 a1_0, .string a1_1, .int .i64 a1_2, .bool a1_3] 45 ?_; intro gb538 hg w16 hbox hb; have BK538 := Aside0.mk (hbox); have GW538 := gw hg bl; have GE538 := GW538; replace HB := Aside0.mk (below_step bl hb); have NB537_538 := Aside0.mk ((by rw [hg]; exact Nat.ne_of_lt (blk_lt (g := gb537) (o := .cells #[.int .i64 a0_0, .string a0_1, .int .i64 a0_2, .bool a0_3] 45 (0, 0)) (uB BK537.out)) : gb537 ≠ gb538)); have NB538_537 := Aside0.mk ((by rw [hg]; exact Nat.ne_of_gt (blk_lt (g := gb537) (o := .cells #[.int .i64 a0_0, .string a0_1, .int .i64 a0_2, .bool a0_3] 45 (0, 0)) (uB BK537.out)) : gb538 ≠ gb537)); replace BK537 := cB BK537 hb; clear hb hbox hg; have hnb17 := NB537_538.out; have hnc17 := NB538_537.out; obtain ⟨hcz18_0, hcz18_1, hcz18_2, hcz18_3, hfz18_0, hfz18_1, hfz18_2, hfz18_3⟩ := z4 BK537; obtain ⟨hcz19_0, hcz19_1, hcz19_2, hcz19_3, hfz19_0, hfz19_1, hfz19_2, hfz19_3⟩ := z4 BK538))
   go_ret
   exact ⟨re_, bl⟩
def r08_rise.l0 : Nat → List (S45) → Int → Option (Bool)
 | 0, _, _ => none
 | k + 1, x0, x3 => if x3 < (x0.length : Int) then (if 0 ≤ (wrap64 (x3 - 1)) then (if (wrap64 (x3 - 1)) < (x0.length : Int) then (if 0 ≤ x3 then ((r08_Before.f ((rd_T45 x0 (wrap64 (x3 - 1))).f0) ((rd_T45 x0 (wrap64 (x3 - 1))).f1) ((rd_T45 x0 (wrap64 (x3 - 1))).f2.f0) ((rd_T45 x0 (wrap64 (x3 - 1))).f2.f1) ((rd_T45 x0 x3).f0) ((rd_T45 x0 x3).f1) ((rd_T45 x0 x3).f2.f0) ((rd_T45 x0 x3).f2.f1)).bind fun t541 => (if t541 = true then (r08_rise.l0 k x0 (wrap64 (x3 + 1))) else (some false))) else (none)) else (none)) else (none)) else (some true)
def r08_rise.f (k : Nat) (l0 : List (S45)) : Option (Bool) := r08_rise.l0 k l0 1
theorem r08_rise.mono_l : ∀ k, (∀ y0 y1, LeC (r08_rise.l0 k y0 y1) (r08_rise.l0 (k + 1) y0 y1))
 | 0 => fun _ _ => ⟨fun r h => by simp [r08_rise.l0] at h⟩
 | k + 1 => by have ih0 := r08_rise.mono_l k; exact fun _ _ => by unfold r08_rise.l0; exact lm
theorem r08_rise.mono : ∀ a0 k, LeO (r08_rise.f k a0) (r08_rise.f (k + 1) a0) := by
 intro a0 k
 have ih0 := r08_rise.mono_l k
 unfold r08_rise.f
 exact lo
instance r08_rise.mI {a0 k} : LeC (r08_rise.f k a0) (r08_rise.f (k + 1) a0) := ⟨r08_rise.mono _ _⟩
def r08_rise.T4 : Bool × List (List Nat × List Nat) := (true, [([], []), ([], []), ([1], [1]), ([0, 2], [0, 2]), ([3], [3]), ([], []), ([], []), ([5, 6], [5, 6]), ([7], [7]), ([4, 8], [4, 8]), ([9], [9])])
def r08_rise.B4 : List Nat := [0, 0, 2, 7, 15, 0, 0, 96, 224, 511, 1023]
theorem r08_rise.tab4 : rtab .any (opsOf Tryz.f44 4) = r08_rise.T4 := by kernel_rfl
theorem r08_rise.bits4 : waitsOk r08_rise.T4.2 r08_rise.B4 = true := by kernel_rfl
theorem r08_rise.calls (k : Nat) (A0 : Option Addr) (c0 : Nat) (l0 : List (S45)) (r : Bool) (w : World) (hr0 : Kd.C k45 w A0 l0.length l0) (hc0 : l0.length ≤ c0) (h : r08_rise.f k l0 = some r) :
 Calls Tryz.prog 44 #[.slice A0 l0.length c0] w fun e w' => e = .returned (.bool r) ∧ Below w.heap.size w w' := by
 have hu45 := Tryz.underlying45
 have HR0 := Aside0.mk hr0
 have HC0 := Aside0.mk hc0
 clear hr0 hc0
 have HB := Aside0.mk (Below.refl w.heap.size w)
 have H : (r08_rise.l0 k l0 1) = some r := h
 clear h
 have H' := Aside0.mk H
 clear H
 go_enter Tryz.func44, Tryz.ntmps44
 go_wp2
 go_loopg [3] k (fun kq v3 w' => ∃ (x3_1 : Int), v3 = .int .i64 x3_1 ∧ Aside0 (r08_rise.l0 kq l0 x3_1 = some r) ∧ Aside0 (kq ≤ k) ∧ Aside0 (Below w.heap.size w w'))
 case atStart => exact ⟨(1), rs_, H', ⟨Nat.le_refl _⟩, ⟨uW HB.out⟩⟩
 case round =>
  clear H'
  obtain ⟨x3_1, rfl, HA, HK1, HB⟩ := hrel
  cases gk with
  | zero => exact absurd HA.out (by simp [r08_rise.l0])
  | succ k1 =>
   have H := HA.out
   clear HA
   simp only [r08_rise.l0] at H
   by_cases c2 : x3_1 < (l0.length : Int)
   ·
    rw [if_pos c2] at H
    have c2b0 : decide (x3_1 < (l0.length : Int)) = true := decide_eq_true c2
    clear c2
    obtain ⟨ji3, hji3⟩ : ∃ j_ : Int, (wrap64 (x3_1 - 1)) = j_ := ⟨_, rfl⟩
    (first | rw [hji3] at H | simp only [hji3] at H)
    have hji3w : (IntKind.i64.wrap (x3_1 - 1)) = ji3 := (i64_w _).trans hji3
    obtain ⟨c4b0, H⟩ := gdd H
    obtain ⟨c5b0, H⟩ := gdd H
    obtain ⟨c6b0, H⟩ := gdd H
    obtain ⟨t541, A7, H⟩ := bs H
    try dsimp only at H
    by_cases c8 : t541 = true
    ·
     subst c8
     rw [if_pos rfl] at H
     have H' := Aside0.mk H
     clear H
     try go_wp2
     replace HB := Aside0.mk (below_drew1 HB.out)
     have p539 : 0 ≤ ((ji3) : Int) := od
     have q539 : (ji3) < (l0.length : Int) := od
     obtain ⟨ad539, e539, hx539_0, hx539_1, hx539_2, hx539_3⟩ := at_T45 HR0.out (ji3) p539 q539
     have hw539_3 := hx539_3
     have hw539_2 := hx539_2
     have hw539_1 := hx539_1
     have hw539_0 := hx539_0
     cases e539
     replace hx539_0 := kc HB hx539_0
     replace hx539_1 := kc HB hx539_1
     replace hx539_2 := kc HB hx539_2
     replace hx539_3 := kc HB hx539_3
     replace p539 := eq_true p539
     replace q539 := eq_true q539
     have p540 : 0 ≤ (x3_1 : Int) := od
     have q540 : x3_1 < (l0.length : Int) := od
     obtain ⟨ad540, e540, hx540_0, hx540_1, hx540_2, hx540_3⟩ := at_T45 HR0.out x3_1 p540 q540
     have hw540_3 := hx540_3
     have hw540_2 := hx540_2
     have hw540_1 := hx540_1
     have hw540_0 := hx540_0
     obtain rfl : ad539 = ad540 := (by injection e540)
     replace hx540_0 := kc HB hx540_0
     replace hx540_1 := kc HB hx540_1
     replace hx540_2 := kc HB hx540_2
     replace hx540_3 := kc HB hx540_3
     replace p540 := eq_true p540
     replace q540 := eq_true q540
     refine start_ (n := 11) (S := fun w' => w'.cell? (ad539.add (((ji3)).toNat * 4)) = some (.int .i64 ((rd_T45 l0 (ji3)).f0)) ∧ w'.cell? ⟨(ad539.add (((ji3)).toNat * 4)).block, (ad539.add (((ji3)).toNat * 4)).off + 1, none⟩ = some (.string ((rd_T45 l0 (ji3)).f1)) ∧ w'.cell? ⟨(ad539.add (((ji3)).toNat * 4)).block, (ad539.add (((ji3)).toNat * 4)).off + 2, none⟩ = some (.int .i64 ((rd_T45 l0 (ji3)).f2.f0)) ∧ w'.cell? ⟨(ad539.add (((ji3)).toNat * 4)).block, (ad539.add (((ji3)).toNat * 4)).off + 3, none⟩ = some (.bool ((rd_T45 l0 (ji3)).f2.f1)) ∧ w'.cell? (ad539.add ((x3_1).toNat * 4)) = some (.int .i64 ((rd_T45 l0 x3_1).f0)) ∧ w'.cell? ⟨(ad539.add ((x3_1).toNat * 4)).block, (ad539.add ((x3_1).toNat * 4)).off + 1, none⟩ = some (.string ((rd_T45 l0 x3_1).f1)) ∧ w'.cell? ⟨(ad539.add ((x3_1).toNat * 4)).block, (ad539.add ((x3_1).toNat * 4)).off + 2, none⟩ = some (.int .i64 ((rd_T45 l0 x3_1).f2.f0)) ∧ w'.cell? ⟨(ad539.add ((x3_1).toNat * 4)).block, (ad539.add ((x3_1).toNat * 4)).off + 3, none⟩ = some (.bool ((rd_T45 l0 x3_1).f2.f1))) (ds := []) _ (by kernel_rfl) rfl rfl ⟨(kc HB hw539_0), (kc HB hw539_1), (kc HB hw539_2), (kc HB hw539_3), (kc HB hw540_0), (kc HB hw540_1), (kc HB hw540_2), (kc HB hw540_3)⟩ (fun hHeld => ?_); refine with_tabW r08_rise.tab4 r08_rise.bits4 (fun HT_ HW_ => ?_)
     generalize wr.drew = w9 at HB hx539_0 hx539_1 hx539_2 hx539_3 hx540_0 hx540_1 hx540_2 hx540_3 hHeld ⊢
     refine p1 0 (some 10) ?_
     refine p1 1 (some 11) ?_
     refine p1 2 (some 12) ?_
     refine p1 3 (some 13) ?_
     refine p1 5 (some 15) ?_
     refine p1 6 (some 16) ?_
     refine p1 7 (some 17) ?_
     refine t1 4 (some 14) rfl rfl hHeld (Or.inl ⟨by rfl, by rintro w' ⟨s0, s1, s2, s3, s4, s5, s6, s7⟩; go_simp; with_reducible rfl⟩) ?_
     refine t1 8 (some 18) rfl rfl hHeld (Or.inl ⟨by rfl, by rintro w' ⟨s0, s1, s2, s3, s4, s5, s6, s7⟩; go_simp; with_reducible rfl⟩) ?_
     refine o1 9 (some 19) rfl rfl (fun K hK => ?_)
     refine goes_ Tryz.func37 (by kernel_rfl) rfl #[.agg #[.int .i64 ((rd_T45 l0 (ji3)).f0), .string ((rd_T45 l0 (ji3)).f1), .int .i64 ((rd_T45 l0 (ji3)).f2.f0), .bool ((rd_T45 l0 (ji3)).f2.f1)], .agg #[.int .i64 ((rd_T45 l0 x3_1).f0), .string ((rd_T45 l0 x3_1).f1), .int .i64 ((rd_T45 l0 x3_1).f2.f0), .bool ((rd_T45 l0 x3_1).f2.f1)]] (by rfl) rfl rfl (by (try simp only [List.map_toArray, List.map_cons, List.map_nil]); first | done | (simp only [hji3]; rfl) | rfl | (simp only [List.length_drop, List.length_take]; rfl)) ?_
     with_reducible refine (r08_Before.calls ((rd_T45 l0 (ji3)).f0) ((rd_T45 l0 (ji3)).f1) ((rd_T45 l0 (ji3)).f2.f0) ((rd_T45 l0 (ji3)).f2.f1) ((rd_T45 l0 x3_1).f0) ((rd_T45 l0 x3_1).f1) ((rd_T45 l0 x3_1).f2.f0) ((rd_T45 l0 x3_1).f2.f1) true _ A7.out).mono ?_
     rintro e w10 ⟨rfl, hb⟩
     refine ⟨_, rfl, ?_⟩
     replace HB := cW HB hb
     (try clear hb)
     refine hK.out _ _ ⟨(kc HB hw539_0), (kc HB hw539_1), (kc HB hw539_2), (kc HB hw539_3), (kc HB hw540_0), (kc HB hw540_1), (kc HB hw540_2), (kc HB hw540_3)⟩ (fun hHeld => ?_)
     clear hK K
     refine norm_ (a' := ?_) ?_ ?_
     rotate_left
     ·
      show Act.put _ (some 19) _ = _
      simp only [Act.put, List.setIfInBounds_toArray, List.set_cons_zero, List.set_cons_succ, i64_w, i32_w]
      rfl
     refine p1 10 (some 20) ?_
     refine done_ (done_of HT_.out (by kernel_rfl)) ?_
     try go_wp2
     go_roundg k1
     case measure => have := HK1.out; omega
     case rel => exact ⟨(wrap64 (x3_1 + 1)), rs_, H', ⟨by have := HK1.out; omega⟩, ⟨uW HB.out⟩⟩
    ·
     replace c8 := Bool.eq_false_iff.mpr c8
     subst c8
     rw [if_neg (show ¬ (false = true) by decide)] at H
     obtain rfl := Option.some.inj H
     try go_wp2
     replace HB := Aside0.mk (below_drew1 HB.out)
     have p539 : 0 ≤ ((ji3) : Int) := od
     have q539 : (ji3) < (l0.length : Int) := od
     obtain ⟨ad539, e539, hx539_0, hx539_1, hx539_2, hx539_3⟩ := at_T45 HR0.out (ji3) p539 q539
     have hw539_3 := hx539_3
     have hw539_2 := hx539_2
     have hw539_1 := hx539_1
     have hw539_0 := hx539_0
     cases e539
     replace hx539_0 := kc HB hx539_0
     replace hx539_1 := kc HB hx539_1
     replace hx539_2 := kc HB hx539_2
     replace hx539_3 := kc HB hx539_3
     replace p539 := eq_true p539
     replace q539 := eq_true q539
     have p540 : 0 ≤ (x3_1 : Int) := od
     have q540 : x3_1 < (l0.length : Int) := od
     obtain ⟨ad540, e540, hx540_0, hx540_1, hx540_2, hx540_3⟩ := at_T45 HR0.out x3_1 p540 q540
     have hw540_3 := hx540_3
     have hw540_2 := hx540_2
     have hw540_1 := hx540_1
     have hw540_0 := hx540_0
     obtain rfl : ad539 = ad540 := (by injection e540)
     replace hx540_0 := kc HB hx540_0
     replace hx540_1 := kc HB hx540_1
     replace hx540_2 := kc HB hx540_2
     replace hx540_3 := kc HB hx540_3
     replace p540 := eq_true p540
     replace q540 := eq_true q540
     refine start_ (n := 11) (S := fun w' => w'.cell? (ad539.add (((ji3)).toNat * 4)) = some (.int .i64 ((rd_T45 l0 (ji3)).f0)) ∧ w'.cell? ⟨(ad539.add (((ji3)).toNat * 4)).block, (ad539.add (((ji3)).toNat * 4)).off + 1, none⟩ = some (.string ((rd_T45 l0 (ji3)).f1)) ∧ w'.cell? ⟨(ad539.add (((ji3)).toNat * 4)).block, (ad539.add (((ji3)).toNat * 4)).off + 2, none⟩ = some (.int .i64 ((rd_T45 l0 (ji3)).f2.f0)) ∧ w'.cell? ⟨(ad539.add (((ji3)).toNat * 4)).block, (ad539.add (((ji3)).toNat * 4)).off + 3, none⟩ = some (.bool ((rd_T45 l0 (ji3)).f2.f1)) ∧ w'.cell? (ad539.add ((x3_1).toNat * 4)) = some (.int .i64 ((rd_T45 l0 x3_1).f0)) ∧ w'.cell? ⟨(ad539.add ((x3_1).toNat * 4)).block, (ad539.add ((x3_1).toNat * 4)).off + 1, none⟩ = some (.string ((rd_T45 l0 x3_1).f1)) ∧ w'.cell? ⟨(ad539.add ((x3_1).toNat * 4)).block, (ad539.add ((x3_1).toNat * 4)).off + 2, none⟩ = some (.int .i64 ((rd_T45 l0 x3_1).f2.f0)) ∧ w'.cell? ⟨(ad539.add ((x3_1).toNat * 4)).block, (ad539.add ((x3_1).toNat * 4)).off + 3, none⟩ = some (.bool ((rd_T45 l0 x3_1).f2.f1))) (ds := []) _ (by kernel_rfl) rfl rfl ⟨(kc HB hw539_0), (kc HB hw539_1), (kc HB hw539_2), (kc HB hw539_3), (kc HB hw540_0), (kc HB hw540_1), (kc HB hw540_2), (kc HB hw540_3)⟩ (fun hHeld => ?_); refine with_tabW r08_rise.tab4 r08_rise.bits4 (fun HT_ HW_ => ?_)
     generalize wr.drew = w11 at HB hx539_0 hx539_1 hx539_2 hx539_3 hx540_0 hx540_1 hx540_2 hx540_3 hHeld ⊢
     refine p1 0 (some 10) ?_
     refine p1 1 (some 11) ?_
     refine p1 2 (some 12) ?_
     refine p1 3 (some 13) ?_
     refine p1 5 (some 15) ?_
     refine p1 6 (some 16) ?_
     refine p1 7 (some 17) ?_
     refine t1 4 (some 14) rfl rfl hHeld (Or.inl ⟨by rfl, by rintro w' ⟨s0, s1, s2, s3, s4, s5, s6, s7⟩; go_simp; with_reducible rfl⟩) ?_
     refine t1 8 (some 18) rfl rfl hHeld (Or.inl ⟨by rfl, by rintro w' ⟨s0, s1, s2, s3, s4, s5, s6, s7⟩; go_simp; with_reducible rfl⟩) ?_
     refine o1 9 (some 19) rfl rfl (fun K hK => ?_)
     refine goes_ Tryz.func37 (by kernel_rfl) rfl #[.agg #[.int .i64 ((rd_T45 l0 (ji3)).f0), .string ((rd_T45 l0 (ji3)).f1), .int .i64 ((rd_T45 l0 (ji3)).f2.f0), .bool ((rd_T45 l0 (ji3)).f2.f1)], .agg #[.int .i64 ((rd_T45 l0 x3_1).f0), .string ((rd_T45 l0 x3_1).f1), .int .i64 ((rd_T45 l0 x3_1).f2.f0), .bool ((rd_T45 l0 x3_1).f2.f1)]] (by rfl) rfl rfl (by (try simp only [List.map_toArray, List.map_cons, List.map_nil]); first | done | (simp only [hji3]; rfl) | rfl | (simp only [List.length_drop, List.length_take]; rfl)) ?_
     with_reducible refine (r08_Before.calls ((rd_T45 l0 (ji3)).f0) ((rd_T45 l0 (ji3)).f1) ((rd_T45 l0 (ji3)).f2.f0) ((rd_T45 l0 (ji3)).f2.f1) ((rd_T45 l0 x3_1).f0) ((rd_T45 l0 x3_1).f1) ((rd_T45 l0 x3_1).f2.f0) ((rd_T45 l0 x3_1).f2.f1) false _ A7.out).mono ?_
     rintro e w12 ⟨rfl, hb⟩
     refine ⟨_, rfl, ?_⟩
     replace HB := cW HB hb
     (try clear hb)
     refine hK.out _ _ ⟨(kc HB hw539_0), (kc HB hw539_1), (kc HB hw539_2), (kc HB hw539_3), (kc HB hw540_0), (kc HB hw540_1), (kc HB hw540_2), (kc HB hw540_3)⟩ (fun hHeld => ?_)
     clear hK K
     refine norm_ (a' := ?_) ?_ ?_
     rotate_left
     ·
      show Act.put _ (some 19) _ = _
      simp only [Act.put, List.setIfInBounds_toArray, List.set_cons_zero, List.set_cons_succ, i64_w, i32_w]
      rfl
     refine p1 10 (some 20) ?_
     refine done_ (done_of HT_.out (by kernel_rfl)) ?_
     try go_wp2
     go_ret
     exact ⟨by first | rfl | (simp [errW_none, errW_some] <;> rfl) | (simp only [← hji3]; first | rfl | (simp [errW_none, errW_some] <;> rfl)) | (simp [*, errW_none, errW_some] <;> rfl), uW HB.out⟩
   ·
    rw [if_neg c2] at H
    have c2b0 : decide (x3_1 < (l0.length : Int)) = false := decide_eq_false c2
    clear c2
    obtain rfl := Option.some.inj H
    go_wp2
    go_ret
    exact ⟨re_, uW HB.out⟩
def r08_Parse.l0 : Nat → List (S45) → List ByteArray → Int → Option ((List (S45)) × Int)
 | 0, _, _, _ => none
 | k + 1, x4, x5, x6 => if x6 < (x5.length : Int) then (if 0 ≤ x6 then ((r08_one.f k (rdOf ByteArray.empty x5 x6)).bind fun bt546 => (if bt546.2.2.2.2 = 0 then (if x4.length < 3518437208883 then (r08_Parse.l0 k (x4 ++ [(⟨bt546.1, bt546.2.1, (⟨bt546.2.2.1, bt546.2.2.2.1⟩ : S43)⟩ : S45)]) x5 (wrap64 (x6 + 1))) else (none)) else (none))) else (none)) else ((r08_rise.f k x4).bind fun t555 => (if t555 = true then (some (x4, 0)) else (none)))
def r08_Parse.f (k : Nat) (a0 : ByteArray) : Option ((List (S45)) × Int) := if a0.toList = ([45] : List UInt8) then (none) else ((r02_Split.f k a0 59).bind fun t542 => (r08_Parse.l0 k ([] : List (S45)) t542 0))
theorem r08_Parse.mono_l : ∀ k, (∀ y0 y1 y2, LeC (r08_Parse.l0 k y0 y1 y2) (r08_Parse.l0 (k + 1) y0 y1 y2))
 | 0 => fun _ _ _ => ⟨fun r h => by simp [r08_Parse.l0] at h⟩
 | k + 1 => by have ih0 := r08_Parse.mono_l k; exact fun _ _ _ => by unfold r08_Parse.l0; exact lm
theorem r08_Parse.mono : ∀ a0 k, LeO (r08_Parse.f k a0) (r08_Parse.f (k + 1) a0) := by
 intro a0 k
 have ih0 := r08_Parse.mono_l k
 unfold r08_Parse.f
 exact lo
instance r08_Parse.mI {a0 k} : LeC (r08_Parse.f k a0) (r08_Parse.f (k + 1) a0) := ⟨r08_Parse.mono _ _⟩
theorem r08_Parse.calls (k : Nat) (a0 : ByteArray) (r1 : List (S45)) (r2 : Int) (w : World) (h : r08_Parse.f k a0 = some (r1, r2)) :
 Calls Tryz.prog 23 #[.string a0] w fun e w' => ∃ v0_ : Value, e = .returned (.tuple #[v0_, .int .i64 r2]) ∧ Kd.R k45 45 w' w.heap.size (fun _ => True) v0_ r1 ∧ Below w.heap.size w w' := by
 have hu45 := Tryz.underlying45
 have HB := Aside0.mk (Below.refl w.heap.size w)
 have H : (if a0.toList = ([45] : List UInt8) then (none) else ((r02_Split.f k a0 59).bind fun t542 => (r08_Parse.l0 k ([] : List (S45)) t542 0))) = some (r1, r2) := h
 clear h
 obtain ⟨c2, H⟩ := gn H
 have c2b0 : (a0.toList == ([45] : List UInt8)) = false := beq_eq_false_iff_ne.mpr c2
 have c2b1 : (a0.toList != ([45] : List UInt8)) = true := bne_iff_ne.mpr c2
 obtain ⟨t542, A3, H⟩ := bs H
 try dsimp only at H
 have H' := Aside0.mk H
 clear H
 go_enter Tryz.func23, Tryz.ntmps23
 go_wp2_with (first | (refine gL (some 12) rfl Tryz.func41 #[.string a0, .int .u8 59] ?_; (with_reducible refine (r02_Split.calls k a0 59 t542 _ A3.out).mono ?_); rintro e w4 ⟨v543, rfl, ho0, hb⟩; refine ⟨_, rfl, ?_⟩; have HO544 := Aside0.mk (Kd.R_lower ho0 (below_size (uW HB.out))); replace HB := cW HB hb; (try clear hb); (try clear ho0)))
 (try simp only [Act.put, List.setIfInBounds_toArray, List.set_cons_zero, List.set_cons_succ])
 go_loopg [4, 6] k (fun kq v4 v6 w' => ∃ (x4_1 : List (S45)) (x6_1 : Int), v6 = .int .i64 x6_1 ∧ Aside0 (r08_Parse.l0 kq x4_1 t542 x6_1 = some (r1, r2)) ∧ Aside0 (kq ≤ k) ∧ Aside0 (Kd.R k45 45 w' w.heap.size (fun _ => True) v4 x4_1) ∧ Aside0 (Kd.R Kd.string 9 w' w.heap.size (fun _ => True) v543 t542) ∧ Aside0 (Below w.heap.size w w'))
 case atStart => exact ⟨(([] : List (S45))), (0), rs_, H', ⟨Nat.le_refl _⟩, ⟨nl_⟩, ⟨uR HO544.out⟩, ⟨uW HB.out⟩⟩
 case round =>
  clear H'
  try clear c2
  try clear c2b0
  try clear c2b1
  try clear p2
  try clear c4
  obtain ⟨x4_1, x6_1, rfl, HA, HK1, HO_4, HO_5, HB⟩ := hrel
  cases gk with
  | zero => exact absurd HA.out (by simp [r08_Parse.l0])
  | succ k1 =>
   have H := HA.out
   clear HA
   simp only [r08_Parse.l0] at H
   by_cases c5 : x6_1 < (t542.length : Int)
   ·
    rw [if_pos c5] at H
    have c5b0 : decide (x6_1 < (t542.length : Int)) = true := decide_eq_true c5
    clear c5
    obtain ⟨c6b0, H⟩ := gdd H
    obtain ⟨⟨t546, t547, t548, t549, t550⟩, A7, H⟩ := bs H
    try dsimp only at H
    obtain ⟨c8, H⟩ := gd H
    have c8b0 : (t550 == 0) = true := beq_iff_eq.mpr c8
    have c8b1 : (t550 != 0) = false := bne_eq_false_iff_eq.mpr c8
    clear c8
    obtain ⟨c9, H⟩ := gd H
    have LMc9 := Aside0.mk c9
    clear c9
    obtain ⟨y552, hy552⟩ : ∃ y_ : List (S45), y_ = (x4_1 ++ [(⟨t546, t547, (⟨t548, t549⟩ : S43)⟩ : S45)]) := ⟨_, rfl⟩
    replace H : (r08_Parse.l0 k1 y552 t542 (wrap64 (x6_1 + 1))) = some (r1, r2) := by first | (rw [hy552]; with_reducible exact H) | (have H2_ := (Option.bind_some _ _).symm.trans H; rw [hy552]; with_reducible exact H2_) | (have H2_ := (Option.bind_some _ _).symm.trans H; with_reducible exact H2_) | with_reducible exact H | (rw [hy552]; exact H) | exact H
    have Ny552 := Aside0.mk hy552
    clear hy552
    have H' := Aside0.mk H
    clear H
    obtain ⟨Ao10, co10, eo10⟩ := Kd.R_slice HO_5.out
    subst eo10
    have p545 : 0 ≤ (x6_1 : Int) := od
    have q545 : x6_1 < (t542.length : Int) := od
    obtain ⟨ad545, e545, hx545_0⟩ := Kd.at_string (Kd.R_reads' HO_5.out).2.2 x6_1 p545 q545
    cases e545
    replace p545 := eq_true p545
    replace q545 := eq_true q545
    go_wp2_with (first | (refine gL (some 24) rfl Tryz.func43 #[.string (rdOf ByteArray.empty t542 x6_1)] ?_; (with_reducible refine (r08_one.calls k1 (rdOf ByteArray.empty t542 x6_1) t546 t547 t548 t549 t550 _ A7.out).mono ?_); rintro e w11 ⟨rfl, hb⟩; refine ⟨_, rfl, ?_⟩; replace HO_4 := cR HO_4 hb; replace HO_5 := cR HO_5 hb; replace HB := cW HB hb; (try clear hb)) | ((with_reducible refine gate_dst (N := 7) rfl ?_); refine bx (N := 7) #[.int .i64 0, .string (⟨#[]⟩ : ByteArray), .int .i64 0, .bool false] 45 ?_; intro gb551 hg w12 hbox hb; replace HO_4 := Aside0.mk (Kd.R_below (Kd.R_elderB (uR HO_4.out) gb551 (Nat.le_of_eq hg.symm)) hb); replace HO_5 := cR HO_5 hb; have BK551 := Aside0.mk (hbox); have GW551 := gw hg (uW HB.out); have GE551 := GW551; replace HB := cW HB hb; clear hb hbox hg; obtain ⟨hcz13_0, hcz13_1, hcz13_2, hcz13_3, hfz13_0, hfz13_1, hfz13_2, hfz13_3⟩ := z4 BK551) | ((with_reducible refine gate_builtin (b := .append) (xs := #[.tmp 30, .tmp 32]) rfl ?_); at_builtin; refine Kd.R_append k45 (w0 := w) w.heap.size rfl (.tmp 30) (.tmp 32) 22 45 (.agg #[(.int .i64 0), (.string ⟨#[]⟩), (.int .i64 0), (.bool false)]) 40 rfl Tryz.underlying22 info45 rfl (by decide) (by omega) u4 x4_1 (⟨t546, t547, (⟨t548, t549⟩ : S43)⟩ : S45) [.int .i64 t546, .string t547, .int .i64 t548, .bool t549] (fun k_ => k_ ≠ gb551) (fun _ => False) rfl (by first | (go_simp; done) | (go_simp; rfl)) ?aP (fun _ hk => hk.elim) ?aF ?aO ?aB ?aS ?aL ?_; (case aP => exact k45_mkM _ _ _ (⟨t546, t547, (⟨t548, t549⟩ : S43)⟩ : S45)); (case aB => exact bl); (case aF => exact (fun k_ hk => Kd.freshB (g := gb551) (o := .cells #[.int .i64 t546, .string t547, .int .i64 t548, .bool t549] 45 (0, 0)) (by (with_reducible repeat (first | refine blk_drewN ?_ _ | refine blk_drew ?_ | refine blk_alloc ?_ _)); refine blk_put (cs := #[.int .i64 t546, .string t547, .int .i64 t548, .bool false]) ?_ 3 _ rfl; (with_reducible repeat (first | refine blk_drewN ?_ _ | refine blk_drew ?_ | refine blk_alloc ?_ _)); refine blk_put (cs := #[.int .i64 t546, .string t547, .int .i64 0, .bool false]) ?_ 2 _ rfl; (with_reducible repeat (first | refine blk_drewN ?_ _ | refine blk_drew ?_ | refine blk_alloc ?_ _)); refine blk_put (cs := #[.int .i64 t546, .string (⟨#[]⟩ : ByteArray), .int .i64 0, .bool false]) ?_ 1 _ rfl; (with_reducible repeat (first | refine blk_drewN ?_ _ | refine blk_drew ?_ | refine blk_alloc ?_ _)); refine blk_put (cs := #[.int .i64 0, .string (⟨#[]⟩ : ByteArray), .int .i64 0, .bool false]) ?_ 0 _ rfl; exact uB <| BK551.out) k_ hk)); (case aO => exact (by exact uR <| Kd.R_mono (Kd.R_far (p := ⟨gb551, 3, none⟩) (Kd.R_far (p := ⟨gb551, 2, none⟩) (Kd.R_far (p := ⟨gb551, 1, none⟩) (Kd.R_far (p := ⟨gb551, 0, none⟩) (Kd.R_mono HO_4.out (fun k_ hk => (⟨hk, hk.2⟩ : _ ∧ k_ ≠ gb551))) (fun _ hk => hk.2) (.int .i64 t546)) (fun _ hk => hk.2) (.string t547)) (fun _ hk => hk.2) (.int .i64 t548)) (fun _ hk => hk.2) (.bool t549)) (fun _ hk => hk.1.2))); (case aS => exact (below_size bl)); (case aL => have := LMc9.out; omega); intro v553 w14 ho hb hg hat; rw [← Ny552.out] at ho; replace HO_5 := Aside0.mk (Kd.R_over' (by exact uR <| (Kd.R_mono (Kd.R_far (p := ⟨gb551, 3, none⟩) (Kd.R_far (p := ⟨gb551, 2, none⟩) (Kd.R_far (p := ⟨gb551, 1, none⟩) (Kd.R_far (p := ⟨gb551, 0, none⟩) (Kd.R_types HO_5.out BK551.out (by decide)) (fun _ hk => hk.2) (.int .i64 t546)) (fun _ hk => hk.2) (.string t547)) (fun _ hk => hk.2) (.int .i64 t548)) (fun _ hk => hk.2) (.bool t549)) (fun _ h_ => h_.1))) (Kd.R_typed (by exact uR <| (Kd.R_mono (Kd.R_far (p := ⟨gb551, 3, none⟩) (Kd.R_far (p := ⟨gb551, 2, none⟩) (Kd.R_far (p := ⟨gb551, 1, none⟩) (Kd.R_far (p := ⟨gb551, 0, none⟩) (Kd.R_mono HO_4.out (fun k_ hk => (⟨hk, hk.2⟩ : _ ∧ k_ ≠ gb551))) (fun _ hk => hk.2) (.int .i64 t546)) (fun _ hk => hk.2) (.string t547)) (fun _ hk => hk.2) (.int .i64 t548)) (fun _ hk => hk.2) (.bool t549)) (fun _ h_ => h_.1)))) (by decide) hg); replace BK551 := Aside0.mk (blk_grown (g := gb551) (o := .cells #[.int .i64 t546, .string t547, .int .i64 t548, .bool t549] 45 (0, 0)) (by (with_reducible repeat (first | refine blk_drewN ?_ _ | refine blk_drew ?_ | refine blk_alloc ?_ _)); refine blk_put (cs := #[.int .i64 t546, .string t547, .int .i64 t548, .bool false]) ?_ 3 _ rfl; (with_reducible repeat (first | refine blk_drewN ?_ _ | refine blk_drew ?_ | refine blk_alloc ?_ _)); refine blk_put (cs := #[.int .i64 t546, .string t547, .int .i64 0, .bool false]) ?_ 2 _ rfl; (with_reducible repeat (first | refine blk_drewN ?_ _ | refine blk_drew ?_ | refine blk_alloc ?_ _)); refine blk_put (cs := #[.int .i64 t546, .string (⟨#[]⟩ : ByteArray), .int .i64 0, .bool false]) ?_ 1 _ rfl; (with_reducible repeat (first | refine blk_drewN ?_ _ | refine blk_drew ?_ | refine blk_alloc ?_ _)); refine blk_put (cs := #[.int .i64 0, .string (⟨#[]⟩ : ByteArray), .int .i64 0, .bool false]) ?_ 0 _ rfl; exact uB <| BK551.out) hg (Kd.R_away HO_4.out (fun _ hk => hk.2))); replace HB := Aside0.mk (hb); have HO554 := Aside0.mk (ho); clear HO_4; clear ho hb hg hat))
    go_roundg k1
    case measure => have := HK1.out; omega
    case rel => exact ⟨(y552), (wrap64 (x6_1 + 1)), rs_, H', ⟨by have := HK1.out; omega⟩, ⟨by exact uR <| Kd.R_mono HO554.out (fun _ hk => trivial)⟩, ⟨uR HO_5.out⟩, ⟨bl⟩⟩
   ·
    rw [if_neg c5] at H
    have c5b0 : decide (x6_1 < (t542.length : Int)) = false := decide_eq_false c5
    clear c5
    obtain ⟨t555, A15, H⟩ := bs H
    try dsimp only at H
    by_cases c16 : t555 = true
    ·
     subst c16
     rw [if_pos rfl] at H
     simp only [Option.some.injEq, Prod.mk.injEq] at H
     obtain ⟨rfl, rfl⟩ := H
     obtain ⟨Ao17, co17, eo17⟩ := Kd.R_slice HO_5.out
     subst eo17
     obtain ⟨Ao18, co18, eo18⟩ := Kd.R_slice HO_4.out
     subst eo18
     go_wp2_with (first | (refine gL (some 35) rfl Tryz.func44 #[.slice Ao18 x4_1.length co18] ?_; (with_reducible refine (r08_rise.calls k1 _ _ x4_1 true _ ?side1 ?side2 A15.out).mono ?_); (case side1 => exact uC <| (Kd.R_reads' HO_4.out).2.2); (case side2 => exact (Kd.R_reads' HO_4.out).2.1); rintro e w19 ⟨rfl, hb⟩; refine ⟨_, rfl, ?_⟩; replace HO_4 := cR HO_4 hb; replace HO_5 := cR HO_5 hb; replace HB := cW HB hb; (try clear hb)))
     go_ret2
     exact ⟨_, re_, uR HO_4.out, uW HB.out⟩
    ·
     replace c16 := Bool.eq_false_iff.mpr c16
     subst c16
     rw [if_neg (show ¬ (false = true) by decide)] at H
     exact absurd H (by simp)
attribute [local go_sem high] eqA48
def w09_alive.f (k : Nat)  : Option (Bool) := (r08_Parse.f k (⟨#[51, 124, 124, 53, 59, 52, 124, 124, 55]⟩ : ByteArray)).bind fun bt556 => ((r08_Parse.f k (⟨#[52, 124, 124, 56, 59, 53, 124, 124, 49]⟩ : ByteArray)).bind fun bt560 => ((diff_Of.f k bt556.1 bt560.1).bind fun bt564 => ((diff_Apply.f k bt556.1 bt564.1).bind fun bt568 => ((diff_Parse.f k (⟨#[33, 51, 124, 59, 52, 124, 124, 56, 59, 53, 124, 124, 49]⟩ : ByteArray)).bind fun bt572 => ((diff_Apply.f k bt560.1 bt564.1).bind fun bt576 => ((diff_Of.f k (([(⟨0, (⟨#[]⟩ : ByteArray), (⟨0, false⟩ : S43)⟩ : S45), (⟨0, (⟨#[]⟩ : ByteArray), (⟨0, false⟩ : S43)⟩ : S45)] : List (S45))) bt560.1).bind fun bt583 => (if bt564.2 = 0 then (if bt568.2 = 0 then (if bt572.2 = 0 then (if bt576.2 = 6 then (if bt583.2 = 9 then ((diff_Text.f k bt564.1).bind fun t587 => (if t587.toList = ([33, 51, 124, 59, 52, 124, 124, 56, 59, 53, 124, 124, 49] : List UInt8) then ((r08_Same.f k bt568.1 bt560.1).bind fun t588 => (if t588 = true then ((diff_Same.f k bt564.1 bt572.1).bind fun t589 => (if t589 = true then ((diff_Same.f k bt564.1 ([] : List (S48))).bind fun t590 => (if t590 = true then (none) else ((diff_Text.f k ([] : List (S48))).bind fun t591 => (some (t591.toList == ([45] : List UInt8)))))) else (none))) else (none))) else (none))) else (none)) else (none)) else (none)) else (none)) else (none))))))))
theorem w09_alive.mono : ∀ k, LeO (w09_alive.f k ) (w09_alive.f (k + 1) ) := by
 intro k
 unfold w09_alive.f
 exact lo
instance w09_alive.mI {k} : LeC (w09_alive.f k) (w09_alive.f (k + 1)) := ⟨w09_alive.mono _⟩
theorem w09_alive.calls (k : Nat)  (r : Bool) (w : World) (hL : LD w) (h : w09_alive.f k  = some r) :
 Calls Tryz.prog 8 #[] w fun e w' => e = .returned (.bool r) ∧ Below w.heap.size w w' := by
 have HL0 := Aside0.mk hL
 clear hL
 have hu45 := Tryz.underlying45
 have HB := Aside0.mk (Below.refl w.heap.size w)
 have H : ((r08_Parse.f k (⟨#[51, 124, 124, 53, 59, 52, 124, 124, 55]⟩ : ByteArray)).bind fun bt556 => ((r08_Parse.f k (⟨#[52, 124, 124, 56, 59, 53, 124, 124, 49]⟩ : ByteArray)).bind fun bt560 => ((diff_Of.f k bt556.1 bt560.1).bind fun bt564 => ((diff_Apply.f k bt556.1 bt564.1).bind fun bt568 => ((diff_Parse.f k (⟨#[33, 51, 124, 59, 52, 124, 124, 56, 59, 53, 124, 124, 49]⟩ : ByteArray)).bind fun bt572 => ((diff_Apply.f k bt560.1 bt564.1).bind fun bt576 => ((diff_Of.f k (([(⟨0, (⟨#[]⟩ : ByteArray), (⟨0, false⟩ : S43)⟩ : S45), (⟨0, (⟨#[]⟩ : ByteArray), (⟨0, false⟩ : S43)⟩ : S45)] : List (S45))) bt560.1).bind fun bt583 => (if bt564.2 = 0 then (if bt568.2 = 0 then (if bt572.2 = 0 then (if bt576.2 = 6 then (if bt583.2 = 9 then ((diff_Text.f k bt564.1).bind fun t587 => (if t587.toList = ([33, 51, 124, 59, 52, 124, 124, 56, 59, 53, 124, 124, 49] : List UInt8) then ((r08_Same.f k bt568.1 bt560.1).bind fun t588 => (if t588 = true then ((diff_Same.f k bt564.1 bt572.1).bind fun t589 => (if t589 = true then ((diff_Same.f k bt564.1 ([] : List (S48))).bind fun t590 => (if t590 = true then (none) else ((diff_Text.f k ([] : List (S48))).bind fun t591 => (some (t591.toList == ([45] : List UInt8)))))) else (none))) else (none))) else (none))) else (none)) else (none)) else (none)) else (none)) else (none))))))))) = some r := h
 clear h
 obtain ⟨⟨t556, t557⟩, A1, H⟩ := bs H
 try dsimp only at H
 obtain ⟨⟨t560, t561⟩, A2, H⟩ := bs H
 try dsimp only at H
 obtain ⟨⟨t564, t567⟩, A3, H⟩ := bs H
 try dsimp only at H
 obtain ⟨⟨t568, t571⟩, A4, H⟩ := bs H
 try dsimp only at H
 obtain ⟨⟨t572, t573⟩, A5, H⟩ := bs H
 try dsimp only at H
 obtain ⟨⟨t576, t579⟩, A6, H⟩ := bs H
 try dsimp only at H
 obtain ⟨y580, hy580⟩ : ∃ y_ : List (S45), y_ = (([(⟨0, (⟨#[]⟩ : ByteArray), (⟨0, false⟩ : S43)⟩ : S45), (⟨0, (⟨#[]⟩ : ByteArray), (⟨0, false⟩ : S43)⟩ : S45)] : List (S45))) := ⟨_, rfl⟩
 replace H : ((diff_Of.f k y580 t560).bind fun bt583 => (if t567 = 0 then (if t571 = 0 then (if t573 = 0 then (if t579 = 6 then (if bt583.2 = 9 then ((diff_Text.f k t564).bind fun t587 => (if t587.toList = ([33, 51, 124, 59, 52, 124, 124, 56, 59, 53, 124, 124, 49] : List UInt8) then ((r08_Same.f k t568 t560).bind fun t588 => (if t588 = true then ((diff_Same.f k t564 t572).bind fun t589 => (if t589 = true then ((diff_Same.f k t564 ([] : List (S48))).bind fun t590 => (if t590 = true then (none) else ((diff_Text.f k ([] : List (S48))).bind fun t591 => (some (t591.toList == ([45] : List UInt8)))))) else (none))) else (none))) else (none))) else (none)) else (none)) else (none)) else (none)) else (none))) = some r := by first | (rw [hy580]; with_reducible exact H) | (have H2_ := (Option.bind_some _ _).symm.trans H; rw [hy580]; with_reducible exact H2_) | (have H2_ := (Option.bind_some _ _).symm.trans H; with_reducible exact H2_) | with_reducible exact H | (rw [hy580]; exact H) | exact H
 have Ny580 := Aside0.mk hy580
 clear hy580
 obtain ⟨⟨t583, t586⟩, A7, H⟩ := bs H
 try dsimp only at H
 by_cases c8 : t567 = 0
 ·
  rw [if_pos c8] at H
  have c8b0 : (t567 == 0) = true := beq_iff_eq.mpr c8
  have c8b1 : (t567 != 0) = false := bne_eq_false_iff_eq.mpr c8
  clear c8
  obtain ⟨c9, H⟩ := gd H
  have c9b0 : (t571 == 0) = true := beq_iff_eq.mpr c9
  have c9b1 : (t571 != 0) = false := bne_eq_false_iff_eq.mpr c9
  clear c9
  obtain ⟨c10, H⟩ := gd H
  have c10b0 : (t573 == 0) = true := beq_iff_eq.mpr c10
  have c10b1 : (t573 != 0) = false := bne_eq_false_iff_eq.mpr c10
  clear c10
  obtain ⟨c11, H⟩ := gd H
  have c11b0 : (t579 == 6) = true := beq_iff_eq.mpr c11
  have c11b1 : (t579 != 6) = false := bne_eq_false_iff_eq.mpr c11
  clear c11
  obtain ⟨c12, H⟩ := gd H
  have c12b0 : (t586 == 9) = true := beq_iff_eq.mpr c12
  have c12b1 : (t586 != 9) = false := bne_eq_false_iff_eq.mpr c12
  clear c12
  obtain ⟨t587, A13, H⟩ := bs H
  try dsimp only at H
  obtain ⟨c14, H⟩ := gd H
  have c14b0 : (t587.toList == ([33, 51, 124, 59, 52, 124, 124, 56, 59, 53, 124, 124, 49] : List UInt8)) = true := beq_iff_eq.mpr c14
  have c14b1 : (t587.toList != ([33, 51, 124, 59, 52, 124, 124, 56, 59, 53, 124, 124, 49] : List UInt8)) = false := bne_eq_false_iff_eq.mpr c14
  clear c14
  obtain ⟨t588, A15, H⟩ := bs H
  try dsimp only at H
  by_cases c16 : t588 = true
  ·
   subst c16
   rw [if_pos rfl] at H
   obtain ⟨t589, A17, H⟩ := bs H
   try dsimp only at H
   by_cases c18 : t589 = true
   ·
    subst c18
    rw [if_pos rfl] at H
    obtain ⟨t590, A19, H⟩ := bs H
    try dsimp only at H
    by_cases c20 : t590 = true
    ·
     subst c20
     rw [if_pos rfl] at H
     exact absurd H (by simp)
    ·
     replace c20 := Bool.eq_false_iff.mpr c20
     subst c20
     rw [if_neg (show ¬ (false = true) by decide)] at H
     obtain ⟨t591, A21, H⟩ := bs H
     try dsimp only at H
     obtain rfl := Option.some.inj H
     go_enter Tryz.func8, Tryz.ntmps8
     go_wp2_with (first | (refine gL (some 16) rfl Tryz.func23 #[.string (⟨#[51, 124, 124, 53, 59, 52, 124, 124, 55]⟩ : ByteArray)] ?_; (with_reducible refine (r08_Parse.calls k (⟨#[51, 124, 124, 53, 59, 52, 124, 124, 55]⟩ : ByteArray) t556 t557 _ A1.out).mono ?_); rintro e w22 ⟨v558, rfl, ho0, hb⟩; refine ⟨_, rfl, ?_⟩; have HO559 := Aside0.mk (Kd.R_lower ho0 (below_size (uW HB.out))); replace HB := cW HB hb; (try clear hb); (try clear ho0)) | (refine gL (some 20) rfl Tryz.func23 #[.string (⟨#[52, 124, 124, 56, 59, 53, 124, 124, 49]⟩ : ByteArray)] ?_; (with_reducible refine (r08_Parse.calls k (⟨#[52, 124, 124, 56, 59, 53, 124, 124, 49]⟩ : ByteArray) t560 t561 _ A2.out).mono ?_); rintro e w23 ⟨v562, rfl, ho0, hb⟩; refine ⟨_, rfl, ?_⟩; have HO563 := Aside0.mk (Kd.R_lower (Kd.R_new' ho0 (Kd.R_lt (uR HO559.out))) (below_size (uW HB.out))); replace HO559 := Aside0.mk (Kd.R_elder' (uR HO559.out) (Kd.R_base ho0) hb); replace HB := cW HB hb; (try clear hb); (try clear ho0); obtain ⟨Ao24, co24, eo24⟩ := Kd.R_slice HO559.out; subst eo24; obtain ⟨Ao25, co25, eo25⟩ := Kd.R_slice HO563.out; subst eo25) | (refine gL (some 26) rfl Tryz.func10 #[.slice Ao24 t556.length co24, .slice Ao25 t560.length co25] ?_; (with_reducible refine (diff_Of.calls (hL := ld) k (fun k_ => some k_ = (.slice Ao24 t556.length co24 : Value).ownBlock) _ _ t556 (fun k_ => some k_ = (.slice Ao25 t560.length co25 : Value).ownBlock) _ _ t560 t564 t567 _ ?side1 ?side2 A3.out).mono ?_); (case side1 => exact Kd.R_V (Kd.R_tight rfl (HO559.out))); (case side2 => exact Kd.R_V (Kd.R_tight rfl (HO563.out))); rintro e w26 ⟨v565, rfl, ho0, hb⟩; refine ⟨_, rfl, ?_⟩; replace HO559 := cR HO559 hb; replace HO563 := cR HO563 hb; have HO566 := Aside0.mk (Kd.R_lower (Kd.R_mono (ok' := fun k_ => True) ho0 (fun _ hk_ => trivial)) (below_size (uW HB.out))); replace HB := cW HB hb; (try clear hb); (try clear ho0); obtain ⟨Ao27, co27, eo27⟩ := Kd.R_slice HO566.out; subst eo27) | (refine gL (some 32) rfl Tryz.func17 #[.slice Ao24 t556.length co24, .slice Ao27 t564.length co27] ?_; (with_reducible refine (diff_Apply.calls (hL := ld) k (fun k_ => some k_ = (.slice Ao24 t556.length co24 : Value).ownBlock) _ _ t556 _ _ t564 t568 t571 _ ?side1 ?side2 ?side3 A4.out).mono ?_); (case side1 => exact Kd.R_V (Kd.R_tight rfl (Kd.R_apart' (HO559.out) (Kd.R_typed HO566.out) (by decide)))); (case side2 => exact uC <| (Kd.R_reads' HO566.out).2.2); (case side3 => exact (Kd.R_reads' HO566.out).2.1); rintro e w28 ⟨v569, rfl, ho0, hb⟩; refine ⟨_, rfl, ?_⟩; replace HO566 := cR HO566 hb; have HO570 := Aside0.mk (Kd.R_lower (Kd.R_new' (Kd.R_new' (Kd.R_mono (ok' := fun k_ => True) ho0 (fun _ hk_ => trivial)) (Kd.R_lt (uR HO559.out))) (Kd.R_lt (uR HO563.out))) (below_size (uW HB.out))); replace HO559 := Aside0.mk (Kd.R_elder' (uR HO559.out) (Kd.R_base ho0) hb); replace HO563 := Aside0.mk (Kd.R_elder' (uR HO563.out) (Kd.R_base ho0) hb); replace HB := cW HB hb; (try clear hb); (try clear ho0)) | (refine gL (some 36) rfl Tryz.func20 #[.string (⟨#[33, 51, 124, 59, 52, 124, 124, 56, 59, 53, 124, 124, 49]⟩ : ByteArray)] ?_; (with_reducible refine (diff_Parse.calls (hL := ld) k (⟨#[33, 51, 124, 59, 52, 124, 124, 56, 59, 53, 124, 124, 49]⟩ : ByteArray) t572 t573 _ A5.out).mono ?_); rintro e w29 ⟨v574, rfl, ho0, hb⟩; refine ⟨_, rfl, ?_⟩; replace HO559 := cR HO559 hb; replace HO563 := cR HO563 hb; replace HO570 := cR HO570 hb; have HO575 := Aside0.mk (Kd.R_lower (Kd.R_new' ho0 (Kd.R_lt (uR HO566.out))) (below_size (uW HB.out))); replace HO566 := Aside0.mk (Kd.R_elder' (uR HO566.out) (Kd.R_base ho0) hb); replace HB := cW HB hb; (try clear hb); (try clear ho0)) | (refine gL (some 42) rfl Tryz.func17 #[.slice Ao25 t560.length co25, .slice Ao27 t564.length co27] ?_; (with_reducible refine (diff_Apply.calls (hL := ld) k (fun k_ => some k_ = (.slice Ao25 t560.length co25 : Value).ownBlock) _ _ t560 _ _ t564 t576 t579 _ ?side1 ?side2 ?side3 A6.out).mono ?_); (case side1 => exact Kd.R_V (Kd.R_tight rfl (Kd.R_apart' (Kd.R_apart' (HO563.out) (Kd.R_typed HO566.out) (by decide)) (Kd.R_typed HO575.out) (by decide)))); (case side2 => exact uC <| (Kd.R_reads' HO566.out).2.2); (case side3 => exact (Kd.R_reads' HO566.out).2.1); rintro e w30 ⟨v577, rfl, ho0, hb⟩; refine ⟨_, rfl, ?_⟩; replace HO566 := cR HO566 hb; replace HO575 := cR HO575 hb; have HO578 := Aside0.mk (Kd.R_lower (Kd.R_new' (Kd.R_new' (Kd.R_new' (Kd.R_mono (ok' := fun k_ => True) ho0 (fun _ hk_ => trivial)) (Kd.R_lt (uR HO559.out))) (Kd.R_lt (uR HO563.out))) (Kd.R_lt (uR HO570.out))) (below_size (uW HB.out))); replace HO559 := Aside0.mk (Kd.R_elder' (uR HO559.out) (Kd.R_base ho0) hb); replace HO563 := Aside0.mk (Kd.R_elder' (uR HO563.out) (Kd.R_base ho0) hb); replace HO570 := Aside0.mk (Kd.R_elder' (uR HO570.out) (Kd.R_base ho0) hb); replace HB := cW HB hb; (try clear hb); (try clear ho0)) | ((with_reducible refine gate_dst (N := 48) rfl ?_); refine Kd.R_lit k45 _ 45 ?hg (N := 48) ?hd (xs := ([(⟨0, (⟨#[]⟩ : ByteArray), (⟨0, false⟩ : S43)⟩ : S45), (⟨0, (⟨#[]⟩ : ByteArray), (⟨0, false⟩ : S43)⟩ : S45)] : List (S45))) (inner := [.int .i64 0, .string (⟨#[]⟩ : ByteArray), .int .i64 0, .bool false, .int .i64 0, .string (⟨#[]⟩ : ByteArray), .int .i64 0, .bool false]) (ok := fun _ => True) (okp := fun _ => True) ?hr ?hp (fun _ hk => hk) trivial (Below.refl _ _) (Nat.le_refl _) (by simp) ?_; (case hd => rfl); (case hg => rfl); (case hr => first | (go_simp; done) | (go_simp; rfl)); (case hp => exact (Reps.c4 (show Kd.M k45 _ _ _ (⟨0, (⟨#[]⟩ : ByteArray), (⟨0, false⟩ : S43)⟩ : S45) [.int .i64 0, .string (⟨#[]⟩ : ByteArray), .int .i64 0, .bool false] from (k45_mkM _ _ _ (⟨0, (⟨#[]⟩ : ByteArray), (⟨0, false⟩ : S43)⟩ : S45) )) (Reps.c4 (show Kd.M k45 _ _ _ (⟨0, (⟨#[]⟩ : ByteArray), (⟨0, false⟩ : S43)⟩ : S45) [.int .i64 0, .string (⟨#[]⟩ : ByteArray), .int .i64 0, .bool false] from (k45_mkM _ _ _ (⟨0, (⟨#[]⟩ : ByteArray), (⟨0, false⟩ : S43)⟩ : S45) )) (Reps.none _ _)))); intro v581 w31 ho32 hb hg_ hnew_; clear hg_ hnew_; (first | rw [← Ny580.out] at ho32 | (simp only [Int.reduceToNat] at ho32; rw [← Ny580.out] at ho32)); replace HO566 := cR HO566 hb; replace HO575 := cR HO575 hb; have HO582 := Aside0.mk (Kd.R_lower (Kd.R_new' (Kd.R_new' (Kd.R_new' (Kd.R_new' ho32 (Kd.R_lt (uR HO559.out))) (Kd.R_lt (uR HO563.out))) (Kd.R_lt (uR HO570.out))) (Kd.R_lt (uR HO578.out))) (below_size (uW HB.out))); replace HO559 := Aside0.mk (Kd.R_elder' (uR HO559.out) (Kd.R_base ho32) hb); replace HO563 := Aside0.mk (Kd.R_elder' (uR HO563.out) (Kd.R_base ho32) hb); replace HO570 := Aside0.mk (Kd.R_elder' (uR HO570.out) (Kd.R_base ho32) hb); replace HO578 := Aside0.mk (Kd.R_elder' (uR HO578.out) (Kd.R_base ho32) hb); replace HB := cW HB hb; clear hb ho32; obtain ⟨Ao33, co33, eo33⟩ := Kd.R_slice HO582.out; subst eo33) | (refine gL (some 50) rfl Tryz.func10 #[.slice Ao33 y580.length co33, .slice Ao25 t560.length co25] ?_; (with_reducible refine (diff_Of.calls (hL := ld) k (fun k_ => some k_ = (.slice Ao33 y580.length co33 : Value).ownBlock) _ _ y580 (fun k_ => some k_ = (.slice Ao25 t560.length co25 : Value).ownBlock) _ _ t560 t583 t586 _ ?side1 ?side2 A7.out).mono ?_); (case side1 => exact Kd.R_V (Kd.R_tight rfl (Kd.R_apart' (Kd.R_apart' (HO582.out) (Kd.R_typed HO566.out) (by decide)) (Kd.R_typed HO575.out) (by decide)))); (case side2 => exact Kd.R_V (Kd.R_tight rfl (Kd.R_apart' (Kd.R_apart' (HO563.out) (Kd.R_typed HO566.out) (by decide)) (Kd.R_typed HO575.out) (by decide)))); rintro e w34 ⟨v584, rfl, ho0, hb⟩; refine ⟨_, rfl, ?_⟩; replace HO559 := cR HO559 hb; replace HO563 := cR HO563 hb; replace HO570 := cR HO570 hb; replace HO578 := cR HO578 hb; replace HO582 := cR HO582 hb; have HO585 := Aside0.mk (Kd.R_lower (Kd.R_new' (Kd.R_new' (Kd.R_mono (ok' := fun k_ => True) ho0 (fun _ hk_ => trivial)) (Kd.R_lt (uR HO566.out))) (Kd.R_lt (uR HO575.out))) (below_size (uW HB.out))); replace HO566 := Aside0.mk (Kd.R_elder' (uR HO566.out) (Kd.R_base ho0) hb); replace HO575 := Aside0.mk (Kd.R_elder' (uR HO575.out) (Kd.R_base ho0) hb); replace HB := cW HB hb; (try clear hb); (try clear ho0)) | (go_at_call 14; (with_reducible refine (diff_Text.calls (hL := ld) k _ _ t564 t587 _ ?side1 ?side2 A13.out).mono ?_); (case side1 => exact uC <| (Kd.R_reads' HO566.out).2.2); (case side2 => exact (Kd.R_reads' HO566.out).2.1); rintro e w35 ⟨rfl, hb⟩; replace HO559 := cR HO559 hb; replace HO563 := cR HO563 hb; replace HO566 := cR HO566 hb; replace HO570 := cR HO570 hb; replace HO575 := cR HO575 hb; replace HO578 := cR HO578 hb; replace HO582 := cR HO582 hb; replace HO585 := cR HO585 hb; replace HB := cW HB hb; (try clear hb); obtain ⟨Ao36, co36, eo36⟩ := Kd.R_slice HO570.out; subst eo36) | (go_at_call 13; (with_reducible refine (r08_Same.calls k _ _ t568 _ _ t560 true _ ?side1 ?side2 ?side3 ?side4 A15.out).mono ?_); (case side1 => exact uC <| (Kd.R_reads' HO570.out).2.2); (case side2 => exact (Kd.R_reads' HO570.out).2.1); (case side3 => exact uC <| (Kd.R_reads' HO563.out).2.2); (case side4 => exact (Kd.R_reads' HO563.out).2.1); rintro e w' ⟨rfl, ⟨nd, rfl⟩⟩; obtain ⟨Ao37, co37, eo37⟩ := Kd.R_slice HO575.out; subst eo37) | (go_at_call 19; (with_reducible refine (diff_Same.calls k _ _ t564 _ _ t572 true _ ?side1 ?side2 ?side3 ?side4 A17.out).mono ?_); (case side1 => exact uC <| (Kd.R_reads' HO566.out).2.2); (case side2 => exact (Kd.R_reads' HO566.out).2.1); (case side3 => exact uC <| (Kd.R_reads' HO575.out).2.2); (case side4 => exact (Kd.R_reads' HO575.out).2.1); rintro e w' ⟨rfl, ⟨nd, rfl⟩⟩) | (go_at_call 19; (refine (diff_Same.calls k _ _ t564 _ _ ([] : List (S48)) false _ ?side1 ?side2 ?side3 ?side4 A19.out).mono ?_); (case side1 => exact uC <| (Kd.R_reads' HO566.out).2.2); (case side2 => exact (Kd.R_reads' HO566.out).2.1); (case side3 => exact Kd.C_nil _ _); (case side4 => exact Nat.le_refl _); rintro e w' ⟨rfl, ⟨nd, rfl⟩⟩) | (go_at_call 14; (refine (diff_Text.calls (hL := ld) k _ _ ([] : List (S48)) t591 _ ?side1 ?side2 A21.out).mono ?_); (case side1 => exact Kd.C_nil _ _); (case side2 => exact Nat.le_refl _); rintro e w38 ⟨rfl, hb⟩; replace HO559 := cR HO559 hb; replace HO563 := cR HO563 hb; replace HO566 := cR HO566 hb; replace HO570 := cR HO570 hb; replace HO575 := cR HO575 hb; replace HO578 := cR HO578 hb; replace HO582 := cR HO582 hb; replace HO585 := cR HO585 hb; replace HB := cW HB hb; (try clear hb)))
     go_ret
     exact ⟨re_, uW HB.out⟩
   ·
    replace c18 := Bool.eq_false_iff.mpr c18
    subst c18
    rw [if_neg (show ¬ (false = true) by decide)] at H
    exact absurd H (by simp)
  ·
   replace c16 := Bool.eq_false_iff.mpr c16
   subst c16
   rw [if_neg (show ¬ (false = true) by decide)] at H
   exact absurd H (by simp)
 ·
  rw [if_neg c8] at H
  exact absurd H (by simp)
def r08_Great.l0 : Nat → List (S45) → Int → Option (Bool)
 | 0, _, _ => none
 | k + 1, x0, x3 => if x3 < (x0.length : Int) then (if 0 ≤ x3 then (if (((rd_T45 x0 x3).f1).size : Int) > 300 then (some true) else (r08_Great.l0 k x0 (wrap64 (x3 + 1)))) else (none)) else (some false)
def r08_Great.f (k : Nat) (l0 : List (S45)) : Option (Bool) := if (l0.length : Int) > 100 then (some true) else (r08_Great.l0 k l0 0)
theorem r08_Great.mono_l : ∀ k, (∀ y0 y1, LeC (r08_Great.l0 k y0 y1) (r08_Great.l0 (k + 1) y0 y1))
 | 0 => fun _ _ => ⟨fun r h => by simp [r08_Great.l0] at h⟩
 | k + 1 => by have ih0 := r08_Great.mono_l k; exact fun _ _ => by unfold r08_Great.l0; exact lm
theorem r08_Great.mono : ∀ a0 k, LeO (r08_Great.f k a0) (r08_Great.f (k + 1) a0) := by
 intro a0 k
 have ih0 := r08_Great.mono_l k
 unfold r08_Great.f
 exact lo
instance r08_Great.mI {a0 k} : LeC (r08_Great.f k a0) (r08_Great.f (k + 1) a0) := ⟨r08_Great.mono _ _⟩
theorem r08_Great.calls (k : Nat) (A0 : Option Addr) (c0 : Nat) (l0 : List (S45)) (r : Bool) (w : World) (hr0 : Kd.C k45 w A0 l0.length l0) (hc0 : l0.length ≤ c0) (h : r08_Great.f k l0 = some r) :
 Calls Tryz.prog 9 #[.slice A0 l0.length c0] w fun e w' => e = .returned (.bool r) ∧ Drawn0 w w' := by
 have HR0 := Aside0.mk hr0
 have HC0 := Aside0.mk hc0
 clear hr0 hc0
 have H : (if (l0.length : Int) > 100 then (some true) else (r08_Great.l0 k l0 0)) = some r := h
 clear h
 by_cases c2 : (l0.length : Int) > 100
 ·
  rw [if_pos c2] at H
  have c2b0 : decide (100 < (l0.length : Int)) = true := decide_eq_true c2
  have c2b1 : decide (100 < l0.length) = true := decide_eq_true (by omega)
  clear c2
  obtain rfl := Option.some.inj H
  go_enter Tryz.func9, Tryz.ntmps9
  go_wp2
  go_ret
  exact ⟨rs_, dr_⟩
 ·
  rw [if_neg c2] at H
  have c2b0 : decide (100 < (l0.length : Int)) = false := decide_eq_false c2
  have c2b1 : decide (100 < l0.length) = false := decide_eq_false (by omega)
  clear c2
  have H' := Aside0.mk H
  clear H
  go_enter Tryz.func9, Tryz.ntmps9
  go_wp2
  go_loopg [3] k (fun kq v3 w' => ∃ (x3_1 : Int), v3 = .int .i64 x3_1 ∧ Aside0 (r08_Great.l0 kq l0 x3_1 = some r) ∧ Aside0 (kq ≤ k) ∧ Drawn0 w w')
  case atStart => exact ⟨(0), rs_, H', ⟨Nat.le_refl _⟩, dr_⟩
  case round =>
   clear H'
   try clear c2
   try clear c2b0
   try clear c2b1
   try clear p2
   obtain ⟨x3_1, rfl, HA, HK1, ⟨m1, rfl⟩⟩ := hrel
   cases gk with
   | zero => exact absurd HA.out (by simp [r08_Great.l0])
   | succ k1 =>
    have H := HA.out
    clear HA
    simp only [r08_Great.l0] at H
    by_cases c3 : x3_1 < (l0.length : Int)
    ·
     rw [if_pos c3] at H
     have c3b0 : decide (x3_1 < (l0.length : Int)) = true := decide_eq_true c3
     clear c3
     obtain ⟨c4b0, H⟩ := gdd H
     by_cases c5 : (((rd_T45 l0 x3_1).f1).size : Int) > 300
     ·
      rw [if_pos c5] at H
      have c5b0 : decide (300 < (((rd_T45 l0 x3_1).f1).size : Int)) = true := decide_eq_true c5
      have c5b1 : decide (300 < ((rd_T45 l0 x3_1).f1).size) = true := decide_eq_true (by omega)
      clear c5
      obtain rfl := Option.some.inj H
      have p592 : 0 ≤ (x3_1 : Int) := od
      have q592 : x3_1 < (l0.length : Int) := od
      obtain ⟨ad592, e592, hx592_0, hx592_1, hx592_2, hx592_3⟩ := at_T45 HR0.out x3_1 p592 q592
      cases e592
      replace p592 := eq_true p592
      replace q592 := eq_true q592
      go_wp2
      go_ret
      exact ⟨rs_, dr_⟩
     ·
      rw [if_neg c5] at H
      have c5b0 : decide (300 < (((rd_T45 l0 x3_1).f1).size : Int)) = false := decide_eq_false c5
      have c5b1 : decide (300 < ((rd_T45 l0 x3_1).f1).size) = false := decide_eq_false (by omega)
      clear c5
      have H' := Aside0.mk H
      clear H
      have p592 : 0 ≤ (x3_1 : Int) := od
      have q592 : x3_1 < (l0.length : Int) := od
      obtain ⟨ad592, e592, hx592_0, hx592_1, hx592_2, hx592_3⟩ := at_T45 HR0.out x3_1 p592 q592
      cases e592
      replace p592 := eq_true p592
      replace q592 := eq_true q592
      go_wp2
      go_roundg k1
      case measure => have := HK1.out; omega
      case rel => exact ⟨(wrap64 (x3_1 + 1)), rs_, H', ⟨by have := HK1.out; omega⟩, dr_⟩
    ·
     rw [if_neg c3] at H
     have c3b0 : decide (x3_1 < (l0.length : Int)) = false := decide_eq_false c3
     clear c3
     obtain rfl := Option.some.inj H
     go_wp2
     go_ret
     exact ⟨rs_, dr_⟩
def r09_Same.l0 : Nat → List (S48) → List (S48) → Int → Option (Bool)
 | 0, _, _, _ => none
 | k + 1, x0, x1, x5 => if x5 < (x0.length : Int) then (if 0 ≤ x5 then (if x5 < (x1.length : Int) then (if ((!(((rd_T48 x0 x5).f0.f0) == ((rd_T48 x1 x5).f0.f0)) || (!((((rd_T48 x0 x5).f0.f1).toList) == (((rd_T48 x1 x5).f0.f1).toList)) || ((!(((rd_T48 x0 x5).f0.f2.f0) == ((rd_T48 x1 x5).f0.f2.f0)) || (!(((rd_T48 x0 x5).f0.f2.f1) == ((rd_T48 x1 x5).f0.f2.f1))))))) || (!(((rd_T48 x0 x5).f1) == ((rd_T48 x1 x5).f1)))) = true then (some false) else (r09_Same.l0 k x0 x1 (wrap64 (x5 + 1)))) else (none)) else (none)) else (some true)
def r09_Same.f (k : Nat) (l0 : List (S48)) (l1 : List (S48)) : Option (Bool) := if (l0.length : Int) = (l1.length : Int) then (r09_Same.l0 k l0 l1 0) else (some false)
theorem r09_Same.mono_l : ∀ k, (∀ y0 y1 y2, LeC (r09_Same.l0 k y0 y1 y2) (r09_Same.l0 (k + 1) y0 y1 y2))
 | 0 => fun _ _ _ => ⟨fun r h => by simp [r09_Same.l0] at h⟩
 | k + 1 => by have ih0 := r09_Same.mono_l k; exact fun _ _ _ => by unfold r09_Same.l0; exact lm
theorem r09_Same.mono : ∀ a0 a1 k, LeO (r09_Same.f k a0 a1) (r09_Same.f (k + 1) a0 a1) := by
 intro a0 a1 k
 have ih0 := r09_Same.mono_l k
 unfold r09_Same.f
 exact lo
instance r09_Same.mI {a0 a1 k} : LeC (r09_Same.f k a0 a1) (r09_Same.f (k + 1) a0 a1) := ⟨r09_Same.mono _ _ _⟩
theorem r09_Same.calls (k : Nat) (A0 : Option Addr) (c0 : Nat) (l0 : List (S48)) (A1 : Option Addr) (c1 : Nat) (l1 : List (S48)) (r : Bool) (w : World) (hr0 : Kd.C k48 w A0 l0.length l0) (hc0 : l0.length ≤ c0) (hr1 : Kd.C k48 w A1 l1.length l1) (hc1 : l1.length ≤ c1) (h : r09_Same.f k l0 l1 = some r) :
 Calls Tryz.prog 12 #[.slice A0 l0.length c0, .slice A1 l1.length c1] w fun e w' => e = .returned (.bool r) ∧ Drawn0 w w' := by
 have hu48 := Tryz.underlying48
 have HR0 := Aside0.mk hr0
 have HC0 := Aside0.mk hc0
 clear hr0 hc0
 have HR1 := Aside0.mk hr1
 have HC1 := Aside0.mk hc1
 clear hr1 hc1
 have H : (if (l0.length : Int) = (l1.length : Int) then (r09_Same.l0 k l0 l1 0) else (some false)) = some r := h
 clear h
 by_cases c3 : (l0.length : Int) = (l1.length : Int)
 ·
  rw [if_pos c3] at H
  have c3b0 : ((l0.length : Int) == (l1.length : Int)) = true := beq_iff_eq.mpr c3
  have c3b1 : ((l0.length : Int) != (l1.length : Int)) = false := bne_eq_false_iff_eq.mpr c3
  have c3b2 : (l0.length == l1.length) = true := by first | simpa using c3 | (simp at c3 ⊢; omega)
  clear c3
  have H' := Aside0.mk H
  clear H
  go_enter Tryz.func12, Tryz.ntmps12
  go_wp2
  repeat (go_quiet (fail); try go_wp2)
  go_loopg [5] k (fun kq v5 w' => ∃ (x5_1 : Int), v5 = .int .i64 x5_1 ∧ Aside0 (r09_Same.l0 kq l0 l1 x5_1 = some r) ∧ Aside0 (kq ≤ k) ∧ Drawn0 w w')
  case atStart => exact ⟨(0), rs_, H', ⟨Nat.le_refl _⟩, dr_⟩
  case round =>
   clear H'
   try clear c1
   try clear p2
   try clear c3
   try clear c3b0
   try clear c3b1
   try clear c3b2
   obtain ⟨x5_1, rfl, HA, HK1, ⟨m1, rfl⟩⟩ := hrel
   cases gk with
   | zero => exact absurd HA.out (by simp [r09_Same.l0])
   | succ k1 =>
    have H := HA.out
    clear HA
    simp only [r09_Same.l0] at H
    by_cases c4 : x5_1 < (l0.length : Int)
    ·
     rw [if_pos c4] at H
     have c4b0 : decide (x5_1 < (l0.length : Int)) = true := decide_eq_true c4
     clear c4
     obtain ⟨c5b0, H⟩ := gdd H
     obtain ⟨c6b0, H⟩ := gdd H
     by_cases c7 : ((!(((rd_T48 l0 x5_1).f0.f0) == ((rd_T48 l1 x5_1).f0.f0)) || (!((((rd_T48 l0 x5_1).f0.f1).toList) == (((rd_T48 l1 x5_1).f0.f1).toList)) || ((!(((rd_T48 l0 x5_1).f0.f2.f0) == ((rd_T48 l1 x5_1).f0.f2.f0)) || (!(((rd_T48 l0 x5_1).f0.f2.f1) == ((rd_T48 l1 x5_1).f0.f2.f1))))))) || (!(((rd_T48 l0 x5_1).f1) == ((rd_T48 l1 x5_1).f1)))) = true
     ·
      rw [if_pos c7] at H
      have c7b0 : ((!(((rd_T48 l0 x5_1).f0.f0) == ((rd_T48 l1 x5_1).f0.f0)) || (!((((rd_T48 l0 x5_1).f0.f1).toList) == (((rd_T48 l1 x5_1).f0.f1).toList)) || ((!(((rd_T48 l0 x5_1).f0.f2.f0) == ((rd_T48 l1 x5_1).f0.f2.f0)) || (!(((rd_T48 l0 x5_1).f0.f2.f1) == ((rd_T48 l1 x5_1).f0.f2.f1))))))) || (!(((rd_T48 l0 x5_1).f1) == ((rd_T48 l1 x5_1).f1)))) = true := c7
      clear c7
      obtain rfl := Option.some.inj H
      have p593 : 0 ≤ (x5_1 : Int) := od
      have q593 : x5_1 < (l0.length : Int) := od
      obtain ⟨ad593, e593, hx593_0, hx593_1, hx593_2, hx593_3, hx593_4⟩ := at_T48 HR0.out x5_1 p593 q593
      cases e593
      replace p593 := eq_true p593
      replace q593 := eq_true q593
      have p594 : 0 ≤ (x5_1 : Int) := od
      have q594 : x5_1 < (l1.length : Int) := od
      obtain ⟨ad594, e594, hx594_0, hx594_1, hx594_2, hx594_3, hx594_4⟩ := at_T48 HR1.out x5_1 p594 q594
      cases e594
      replace p594 := eq_true p594
      replace q594 := eq_true q594
      go_wp2
      repeat (go_quiet (fail); try go_wp2)
      go_ret
      exact ⟨rs_, dr_⟩
     ·
      rw [if_neg c7] at H
      have c7b0 : ((!(((rd_T48 l0 x5_1).f0.f0) == ((rd_T48 l1 x5_1).f0.f0)) || (!((((rd_T48 l0 x5_1).f0.f1).toList) == (((rd_T48 l1 x5_1).f0.f1).toList)) || ((!(((rd_T48 l0 x5_1).f0.f2.f0) == ((rd_T48 l1 x5_1).f0.f2.f0)) || (!(((rd_T48 l0 x5_1).f0.f2.f1) == ((rd_T48 l1 x5_1).f0.f2.f1))))))) || (!(((rd_T48 l0 x5_1).f1) == ((rd_T48 l1 x5_1).f1)))) = false := by simpa using c7
      clear c7
      have H' := Aside0.mk H
      clear H
      have p593 : 0 ≤ (x5_1 : Int) := od
      have q593 : x5_1 < (l0.length : Int) := od
      obtain ⟨ad593, e593, hx593_0, hx593_1, hx593_2, hx593_3, hx593_4⟩ := at_T48 HR0.out x5_1 p593 q593
      cases e593
      replace p593 := eq_true p593
      replace q593 := eq_true q593
      have p594 : 0 ≤ (x5_1 : Int) := od
      have q594 : x5_1 < (l1.length : Int) := od
      obtain ⟨ad594, e594, hx594_0, hx594_1, hx594_2, hx594_3, hx594_4⟩ := at_T48 HR1.out x5_1 p594 q594
      cases e594
      replace p594 := eq_true p594
      replace q594 := eq_true q594
      go_wp2
      repeat (go_quiet (fail); try go_wp2)
      go_roundg k1
      case measure => have := HK1.out; omega
      case rel => exact ⟨(wrap64 (x5_1 + 1)), rs_, H', ⟨by have := HK1.out; omega⟩, dr_⟩
    ·
     rw [if_neg c4] at H
     have c4b0 : decide (x5_1 < (l0.length : Int)) = false := decide_eq_false c4
     clear c4
     obtain rfl := Option.some.inj H
     go_wp2
     repeat (go_quiet (fail); try go_wp2)
     go_ret
     exact ⟨rs_, dr_⟩
 ·
  rw [if_neg c3] at H
  have c3b0 : ((l0.length : Int) == (l1.length : Int)) = false := beq_eq_false_iff_ne.mpr c3
  have c3b1 : ((l0.length : Int) != (l1.length : Int)) = true := bne_iff_ne.mpr c3
  have c3b2 : (l0.length == l1.length) = false := by first | simpa using c3 | (simp at c3 ⊢; omega)
  obtain rfl := Option.some.inj H
  go_enter Tryz.func12, Tryz.ntmps12
  go_wp2
  repeat (go_quiet (fail); try go_wp2)
  go_ret
  exact ⟨rs_, dr_⟩
mutual
def r01_Number.j0 : Nat → Int → Int → Option (ByteArray)
 | 0, _, _ => none
 | k + 1, x0, x3 => r01_Number.l0 k x0 x3 (⟨#[]⟩ : ByteArray)
def r01_Number.l0 : Nat → Int → Int → ByteArray → Option (ByteArray)
 | 0, _, _, _ => none
 | k + 1, x0, x3, x4 => (some (([(wrap64 (48 + (wrap64 (-(Int.tmod x3 10))))) % 256] : List Int) : List Int)).bind fun y595 => (if (strOfNums y595).size + x4.size ≤ 9223372036854775807 then (if (wrap64 (Int.tdiv x3 10)) = 0 then (if x0 < 0 then (if 1 + ((strOfNums y595) ++ x4).size ≤ 9223372036854775807 then (some ((⟨#[45]⟩ : ByteArray) ++ ((strOfNums y595) ++ x4))) else (none)) else (some ((strOfNums y595) ++ x4))) else (r01_Number.l0 k x0 (wrap64 (Int.tdiv x3 10)) ((strOfNums y595) ++ x4))) else (none))
end
def r01_Number.f (k : Nat) (a0 : Int) : Option (ByteArray) := if a0 > 0 then (r01_Number.j0 k a0 (wrap64 (-a0))) else (r01_Number.j0 k a0 a0)
theorem r01_Number.mono_l : ∀ k, (∀ y0 y1, LeC (r01_Number.j0 k y0 y1) (r01_Number.j0 (k + 1) y0 y1)) ∧ (∀ y0 y1 y2, LeC (r01_Number.l0 k y0 y1 y2) (r01_Number.l0 (k + 1) y0 y1 y2))
 | 0 => ⟨fun _ _ => ⟨fun r h => by simp [r01_Number.j0] at h⟩, fun _ _ _ => ⟨fun r h => by simp [r01_Number.l0] at h⟩⟩
 | k + 1 => by obtain ⟨ih0, ih1⟩ := r01_Number.mono_l k; exact ⟨fun _ _ => by unfold r01_Number.j0; exact lm, fun _ _ _ => by unfold r01_Number.l0; exact lm⟩
theorem r01_Number.mono : ∀ a0 k, LeO (r01_Number.f k a0) (r01_Number.f (k + 1) a0) := by
 intro a0 k
 obtain ⟨ih0, ih1⟩ := r01_Number.mono_l k
 unfold r01_Number.f
 exact lo
instance r01_Number.mI {a0 k} : LeC (r01_Number.f k a0) (r01_Number.f (k + 1) a0) := ⟨r01_Number.mono _ _⟩
theorem r01_Number.calls (k : Nat) (a0 : Int) (r : ByteArray) (w : World) (h : r01_Number.f k a0 = some r) :
 Calls Tryz.prog 34 #[.int .i64 a0] w fun e w' => e = .returned (.string r) ∧ Below w.heap.size w w' := by
 have HB := Aside0.mk (Below.refl w.heap.size w)
 have H : (if a0 > 0 then (r01_Number.j0 k a0 (wrap64 (-a0))) else (r01_Number.j0 k a0 a0)) = some r := h
 clear h
 have HC2 := Aside0.mk H
 clear H
 go_enter Tryz.func34, Tryz.ntmps34
 go_upto_if 7 with (fail)
 go_cut [3] (fun v3 wc => ∃ (kq : Nat) (x3_1 : Int), v3 = .int .i64 x3_1 ∧ Aside0 (r01_Number.j0 kq a0 x3_1 = some r) ∧ Aside0 (kq ≤ k) ∧ Aside0 (Below w.heap.size w wc))
 case first =>
  have H := HC2.out
  clear HC2
  by_cases c3 : a0 > 0
  ·
   rw [if_pos c3] at H
   have c3b0 : decide (0 < a0) = true := decide_eq_true c3
   clear c3
   (first | rw [c3b0] | (simp only [i64_w, i32_w]; rw [c3b0]) | skip)
   have H' := Aside0.mk H
   clear H
   go_wp2
   go_meet
   case rel => exact ⟨_, (wrap64 (-a0)), rs_, H', ⟨by first | omega | exact Nat.le_refl _⟩, ⟨uW HB.out⟩⟩
  ·
   rw [if_neg c3] at H
   have c3b0 : decide (0 < a0) = false := decide_eq_false c3
   clear c3
   (first | rw [c3b0] | (simp only [i64_w, i32_w]; rw [c3b0]) | skip)
   have H' := Aside0.mk H
   clear H
   go_wp2
   go_meet
   case rel => exact ⟨_, (a0), rs_, H', ⟨by first | omega | exact Nat.le_refl _⟩, ⟨uW HB.out⟩⟩
 case rest =>
  clear HC2
  try clear p2
  try clear c3
  try clear c3b0
  obtain ⟨kq, x3_1, rfl, HA, HJ1, HB⟩ := hcut
  cases kq with
  | zero => exact absurd HA.out (by simp [r01_Number.j0])
  | succ kj1 =>
   have H := HA.out
   clear HA
   simp only [r01_Number.j0] at H
   have H' := Aside0.mk H
   clear H
   go_wp2
   go_loopg [3, 4] kj1 (fun kq v3 v4 w' => ∃ (x3_2 : Int) (x4_2 : ByteArray), v3 = .int .i64 x3_2 ∧ v4 = .string x4_2 ∧ Aside0 (r01_Number.l0 kq a0 x3_2 x4_2 = some r) ∧ Aside0 (kq ≤ kj1) ∧ Aside0 (Below w.heap.size w w'))
   case atStart => exact ⟨(x3_1), ((⟨#[]⟩ : ByteArray)), rs_, rs_, H', ⟨Nat.le_refl _⟩, ⟨uW HB.out⟩⟩
   case round =>
    clear H'
    try clear p2
    try clear c3
    try clear c3b0
    try clear p2
    obtain ⟨x3_2, x4_2, rfl, rfl, HA, HK2, HB⟩ := hrel
    cases gk with
    | zero => exact absurd HA.out (by simp [r01_Number.l0])
    | succ k2 =>
     have H := HA.out
     clear HA
     simp only [r01_Number.l0] at H
     obtain ⟨y595, Ny595, H⟩ := ys H
     try dsimp only at H
     by_cases c4 : (strOfNums y595).size + x4_2.size ≤ 9223372036854775807
     ·
      rw [if_pos c4] at H
      have c4b0 := eq_true c4
      have c4b1 : decide ((strOfNums y595).size + x4_2.size ≤ 9223372036854775807) = true := decide_eq_true c4
      try have c4b2 : (9223372036854775807 < (strOfNums y595).size + x4_2.size) = False := eq_false (Nat.not_lt.2 c4)
      by_cases c5 : (wrap64 (Int.tdiv x3_2 10)) = 0
      ·
       rw [if_pos c5] at H
       have c5b0 : ((wrap64 (Int.tdiv x3_2 10)) == 0) = true := beq_iff_eq.mpr c5
       have c5b1 : ((wrap64 (Int.tdiv x3_2 10)) != 0) = false := bne_eq_false_iff_eq.mpr c5
       clear c5
       by_cases c6 : a0 < 0
       ·
        rw [if_pos c6] at H
        have c6b0 : decide (a0 < 0) = true := decide_eq_true c6
        clear c6
        obtain ⟨c7, H⟩ := gd H
        have c7b0 := eq_true c7
        have c7b1 : decide (1 + ((strOfNums y595) ++ x4_2).size ≤ 9223372036854775807) = true := decide_eq_true c7
        try have c7b2 : (9223372036854775807 < 1 + ((strOfNums y595) ++ x4_2).size) = False := eq_false (Nat.not_lt.2 c7)
        try have c7b8 := c7b2
        try simp only [ByteArray.size_append] at c7b8
        obtain rfl := Option.some.inj H
        go_wp2_with (first | ((with_reducible refine gate_dst (N := 15) rfl ?_); refine Kd.R_lit (Kd.int .u8) _ 5 ?hg (N := 15) ?hd (xs := ([(wrap64 (48 + (wrap64 (-(Int.tmod x3_2 10))))) % 256] : List Int)) (inner := [.int .u8 ((wrap64 (48 + (wrap64 (-(Int.tmod x3_2 10))))) % 256)]) (ok := fun _ => True) (okp := fun _ => True) ?hr ?hp (fun _ hk => hk) trivial (Below.refl _ _) (Nat.le_refl _) (by simp) ?_; (case hd => rfl); (case hg => rfl); (case hr => first | (go_simp; done) | (go_simp; rfl)); (case hp => exact (Reps.one (show Kd.M (Kd.int .u8) _ _ _ ((wrap64 (48 + (wrap64 (-(Int.tmod x3_2 10))))) % 256) [.int .u8 ((wrap64 (48 + (wrap64 (-(Int.tmod x3_2 10))))) % 256)] from rfl) (Reps.none _ _))); intro v596 w8 ho9 hb hg_ hnew_; clear hg_ hnew_; (first | rw [← Ny595.out] at ho9 | (simp only [Int.reduceToNat] at ho9; rw [← Ny595.out] at ho9)); have HO597 := Aside0.mk (Kd.R_lower ho9 (below_size (uW HB.out))); replace HB := cW HB hb; clear hb ho9; have hcv10 := own_string (P := Tryz.prog) Tryz.underlying72 Tryz.underlying5 Tryz.underlying9 (Kd.own_of_R HO597.out)))
        go_ret
        exact ⟨re_, uW HB.out⟩
       ·
        rw [if_neg c6] at H
        have c6b0 : decide (a0 < 0) = false := decide_eq_false c6
        clear c6
        obtain rfl := Option.some.inj H
        go_wp2_with (first | ((with_reducible refine gate_dst (N := 15) rfl ?_); refine Kd.R_lit (Kd.int .u8) _ 5 ?hg (N := 15) ?hd (xs := ([(wrap64 (48 + (wrap64 (-(Int.tmod x3_2 10))))) % 256] : List Int)) (inner := [.int .u8 ((wrap64 (48 + (wrap64 (-(Int.tmod x3_2 10))))) % 256)]) (ok := fun _ => True) (okp := fun _ => True) ?hr ?hp (fun _ hk => hk) trivial (Below.refl _ _) (Nat.le_refl _) (by simp) ?_; (case hd => rfl); (case hg => rfl); (case hr => first | (go_simp; done) | (go_simp; rfl)); (case hp => exact (Reps.one (show Kd.M (Kd.int .u8) _ _ _ ((wrap64 (48 + (wrap64 (-(Int.tmod x3_2 10))))) % 256) [.int .u8 ((wrap64 (48 + (wrap64 (-(Int.tmod x3_2 10))))) % 256)] from rfl) (Reps.none _ _))); intro v596 w11 ho12 hb hg_ hnew_; clear hg_ hnew_; (first | rw [← Ny595.out] at ho12 | (simp only [Int.reduceToNat] at ho12; rw [← Ny595.out] at ho12)); have HO597 := Aside0.mk (Kd.R_lower ho12 (below_size (uW HB.out))); replace HB := cW HB hb; clear hb ho12; have hcv13 := own_string (P := Tryz.prog) Tryz.underlying72 Tryz.underlying5 Tryz.underlying9 (Kd.own_of_R HO597.out)))
        go_ret
        exact ⟨re_, uW HB.out⟩
      ·
       rw [if_neg c5] at H
       have c5b0 : ((wrap64 (Int.tdiv x3_2 10)) == 0) = false := beq_eq_false_iff_ne.mpr c5
       have c5b1 : ((wrap64 (Int.tdiv x3_2 10)) != 0) = true := bne_iff_ne.mpr c5
       have H' := Aside0.mk H
       clear H
       go_wp2_with (first | ((with_reducible refine gate_dst (N := 15) rfl ?_); refine Kd.R_lit (Kd.int .u8) _ 5 ?hg (N := 15) ?hd (xs := ([(wrap64 (48 + (wrap64 (-(Int.tmod x3_2 10))))) % 256] : List Int)) (inner := [.int .u8 ((wrap64 (48 + (wrap64 (-(Int.tmod x3_2 10))))) % 256)]) (ok := fun _ => True) (okp := fun _ => True) ?hr ?hp (fun _ hk => hk) trivial (Below.refl _ _) (Nat.le_refl _) (by simp) ?_; (case hd => rfl); (case hg => rfl); (case hr => first | (go_simp; done) | (go_simp; rfl)); (case hp => exact (Reps.one (show Kd.M (Kd.int .u8) _ _ _ ((wrap64 (48 + (wrap64 (-(Int.tmod x3_2 10))))) % 256) [.int .u8 ((wrap64 (48 + (wrap64 (-(Int.tmod x3_2 10))))) % 256)] from rfl) (Reps.none _ _))); intro v596 w14 ho15 hb hg_ hnew_; clear hg_ hnew_; (first | rw [← Ny595.out] at ho15 | (simp only [Int.reduceToNat] at ho15; rw [← Ny595.out] at ho15)); have HO597 := Aside0.mk (Kd.R_lower ho15 (below_size (uW HB.out))); replace HB := cW HB hb; clear hb ho15; have hcv16 := own_string (P := Tryz.prog) Tryz.underlying72 Tryz.underlying5 Tryz.underlying9 (Kd.own_of_R HO597.out)))
       go_roundg k2
       case measure => have := HJ1.out; have := HK2.out; omega
       case rel => exact ⟨(wrap64 (Int.tdiv x3_2 10)), ((strOfNums y595) ++ x4_2), rs_, rs_, H', ⟨by have := HJ1.out; have := HK2.out; omega⟩, ⟨uW HB.out⟩⟩
     ·
      rw [if_neg c4] at H
      exact absurd H (by simp)
def r01_Text.f (k : Nat) (a0_0 : Int) (a0_1 : Bool) : Option (ByteArray) := if a0_1 = true then ((r01_Number.f k a0_0).bind fun t599 => (if t599.size + 1 ≤ 9223372036854775807 then (some (t599 ++ (⟨#[33]⟩ : ByteArray))) else (none))) else ((r01_Number.f k a0_0).bind fun t600 => (some t600))
theorem r01_Text.mono : ∀ a0 a1 k, LeO (r01_Text.f k a0 a1) (r01_Text.f (k + 1) a0 a1) := by
 intro a0 a1 k
 unfold r01_Text.f
 exact lo
instance r01_Text.mI {a0 a1 k} : LeC (r01_Text.f k a0 a1) (r01_Text.f (k + 1) a0 a1) := ⟨r01_Text.mono _ _ _⟩
theorem r01_Text.calls (k : Nat) (a0_0 : Int) (a0_1 : Bool) (r : ByteArray) (w : World) (h : r01_Text.f k a0_0 a0_1 = some r) :
 Calls Tryz.prog 55 #[.agg #[.int .i64 a0_0, .bool a0_1]] w fun e w' => e = .returned (.string r) ∧ Below w.heap.size w w' := by
 have hu43 := Tryz.underlying43
 have HB := Aside0.mk (Below.refl w.heap.size w)
 have H : (if a0_1 = true then ((r01_Number.f k a0_0).bind fun t599 => (if t599.size + 1 ≤ 9223372036854775807 then (some (t599 ++ (⟨#[33]⟩ : ByteArray))) else (none))) else ((r01_Number.f k a0_0).bind fun t600 => (some t600))) = some r := h
 clear h
 by_cases c2 : a0_1 = true
 ·
  subst c2
  rw [if_pos rfl] at H
  obtain ⟨t599, A3, H⟩ := bs H
  try dsimp only at H
  obtain ⟨c4, H⟩ := gd H
  have c4b0 := eq_true c4
  have c4b1 : decide (t599.size + 1 ≤ 9223372036854775807) = true := decide_eq_true c4
  try have c4b2 : (9223372036854775807 < t599.size + 1) = False := eq_false (Nat.not_lt.2 c4)
  obtain rfl := Option.some.inj H
  go_enter Tryz.func55, Tryz.ntmps55
  go_wp2_with (first | ((with_reducible refine gate_dst (N := 1) rfl ?_); refine bx (N := 1) #[.int .i64 a0_0, .bool true] 43 ?_; intro gb598 hg w5 hbox hb; have BK598 := Aside0.mk (hbox); have GW598 := gw hg (uW HB.out); have GE598 := GW598; replace HB := cW HB hb; clear hb hbox hg; obtain ⟨hcz6_0, hcz6_1, hfz6_0, hfz6_1⟩ := z2 BK598) | (refine gL (some 7) rfl Tryz.func34 #[.int .i64 a0_0] ?_; (with_reducible refine (r01_Number.calls k a0_0 t599 _ A3.out).mono ?_); rintro e w7 ⟨rfl, hb⟩; refine ⟨_, rfl, ?_⟩; replace BK598 := cB BK598 hb; replace HB := Aside0.mk (below_step bl hb); (try clear hb)))
  go_ret
  exact ⟨re_, bl⟩
 ·
  replace c2 := Bool.eq_false_iff.mpr c2
  subst c2
  rw [if_neg (show ¬ (false = true) by decide)] at H
  obtain ⟨t600, A8, H⟩ := bs H
  try dsimp only at H
  obtain rfl := Option.some.inj H
  go_enter Tryz.func55, Tryz.ntmps55
  go_wp2_with (first | ((with_reducible refine gate_dst (N := 1) rfl ?_); refine bx (N := 1) #[.int .i64 a0_0, .bool false] 43 ?_; intro gb598 hg w9 hbox hb; have BK598 := Aside0.mk (hbox); have GW598 := gw hg (uW HB.out); have GE598 := GW598; replace HB := cW HB hb; clear hb hbox hg; obtain ⟨hcz10_0, hcz10_1, hfz10_0, hfz10_1⟩ := z2 BK598) | (refine gL (some 11) rfl Tryz.func34 #[.int .i64 a0_0] ?_; (with_reducible refine (r01_Number.calls k a0_0 t600 _ A8.out).mono ?_); rintro e w11 ⟨rfl, hb⟩; refine ⟨_, rfl, ?_⟩; replace BK598 := cB BK598 hb; replace HB := Aside0.mk (below_step bl hb); (try clear hb)))
  go_ret
  exact ⟨re_, bl⟩
end Go.Proofs.YtgcbejidponoaaaGreatDoor.X
