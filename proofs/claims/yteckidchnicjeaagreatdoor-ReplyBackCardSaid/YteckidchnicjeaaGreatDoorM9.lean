/- Printed by a program of this session's own: what functions of the program compute, and that the machine computes it. No condition of its own. -/
import Derived.Test.YteckidchnicjeaaGreatDoorM3
import Derived.Test.YteckidchnicjeaaGreatDoorM7
import Derived.Test.YteckidchnicjeaaGreatDoorM8
namespace Go.Proofs.YteckidchnicjeaaGreatDoor.X
open Go.RowKit Go.Proofs.YteckidchnicjeaaGreatDoorW.PrintWords Go.Proofs.YteckidchnicjeaaGreatDoorW.PrintLast Go.Proofs.YteckidchnicjeaaGreatDoorW.PrintMore
attribute [local go_sem] max2_int min2_int max_two min_two max_three min_three max_four min_four
set_option linter.unusedVariables false
set_option linter.unusedSimpArgs false
set_option maxHeartbeats 8000000
set_option maxRecDepth 100000
attribute [local go_sem high] eqA60 eqA78
def r19_Much.l0 : Nat → List (S36) → Int → Option (Bool)
 | 0, _, _ => none
 | k + 1, x0, x3 => if x3 < (x0.length : Int) then (if 0 ≤ x3 then ((r08_Great.f k ((rd_T36 x0 x3).f3)).bind fun t435 => (if t435 = true then (some true) else ((r09_Great.f k ((rd_T36 x0 x3).f4)).bind fun t437 => (if t437 = true then (some true) else (r19_Much.l0 k x0 (wrap64 (x3 + 1))))))) else (none)) else (some false)
def r19_Much.f (k : Nat) (l0 : List (S36)) : Option (Bool) := if (l0.length : Int) > 30 then (some true) else (r19_Much.l0 k l0 0)
theorem r19_Much.mono_l : ∀ k, (∀ y0 y1, LeC (r19_Much.l0 k y0 y1) (r19_Much.l0 (k + 1) y0 y1))
 | 0 => fun _ _ => ⟨fun r h => by simp [r19_Much.l0] at h⟩
 | k + 1 => by have ih0 := r19_Much.mono_l k; exact fun _ _ => by unfold r19_Much.l0; exact lm
theorem r19_Much.mono : ∀ a0 k, LeO (r19_Much.f k a0) (r19_Much.f (k + 1) a0) := by
 intro a0 k
 have ih0 := r19_Much.mono_l k
 unfold r19_Much.f
 exact lo
instance r19_Much.mI {a0 k} : LeC (r19_Much.f k a0) (r19_Much.f (k + 1) a0) := ⟨r19_Much.mono _ _⟩
theorem r19_Much.calls (k : Nat) (A0 : Option Addr) (c0 : Nat) (l0 : List (S36)) (r : Bool) (w : World) (hr0 : Kd.C k36 w A0 l0.length l0) (hc0 : l0.length ≤ c0) (h : r19_Much.f k l0 = some r) :
 Calls Tryz.prog 17 #[.slice A0 l0.length c0] w fun e w' => e = .returned (.bool r) ∧ Drawn0 w w' := by
 have HR0 := Aside0.mk hr0
 have HC0 := Aside0.mk hc0
 clear hr0 hc0
 have H : (if (l0.length : Int) > 30 then (some true) else (r19_Much.l0 k l0 0)) = some r := h
 clear h
 by_cases c2 : (l0.length : Int) > 30
 ·
  rw [if_pos c2] at H
  have c2b0 : decide (30 < (l0.length : Int)) = true := decide_eq_true c2
  have c2b1 : decide (30 < l0.length) = true := decide_eq_true (by omega)
  clear c2
  obtain rfl := Option.some.inj H
  go_enter Tryz.func17, Tryz.ntmps17
  go_wp2
  go_ret
  exact ⟨rs_, dr_⟩
 ·
  rw [if_neg c2] at H
  have c2b0 : decide (30 < (l0.length : Int)) = false := decide_eq_false c2
  have c2b1 : decide (30 < l0.length) = false := decide_eq_false (by omega)
  clear c2
  have H' := Aside0.mk H
  clear H
  go_enter Tryz.func17, Tryz.ntmps17
  go_wp2
  go_loopg [3] k (fun kq v3 w' => ∃ (x3_1 : Int), v3 = .int .i64 x3_1 ∧ Aside0 (r19_Much.l0 kq l0 x3_1 = some r) ∧ Aside0 (kq ≤ k) ∧ Drawn0 w w')
  case atStart => exact ⟨(0), rs_, H', ⟨Nat.le_refl _⟩, dr_⟩
  case round =>
   clear H'
   try clear c2
   try clear c2b0
   try clear c2b1
   obtain ⟨x3_1, rfl, HA, HK1, ⟨m1, rfl⟩⟩ := hrel
   cases gk with
   | zero => exact absurd HA.out (by simp [r19_Much.l0])
   | succ k1 =>
    have H := HA.out
    clear HA
    simp only [r19_Much.l0] at H
    by_cases c3 : x3_1 < (l0.length : Int)
    ·
     rw [if_pos c3] at H
     have c3b0 : decide (x3_1 < (l0.length : Int)) = true := decide_eq_true c3
     clear c3
     obtain ⟨c4b0, H⟩ := gdd H
     obtain ⟨t435, A5, H⟩ := bs H
     try dsimp only at H
     by_cases c6 : t435 = true
     ·
      subst c6
      rw [if_pos rfl] at H
      obtain rfl := Option.some.inj H
      have p434 : 0 ≤ (x3_1 : Int) := od
      have q434 : x3_1 < (l0.length : Int) := od
      obtain ⟨ad434, A434_3, c434_3, A434_4, c434_4, e434, hx434_0, hx434_1, hx434_2, hx434_3, hx434_4, hl434_3, hi434_3, hl434_4, hi434_4⟩ := at_T36 HR0.out x3_1 p434 q434
      cases e434
      have HR434_3 := Aside0.mk hi434_3
      have HC434_3 := Aside0.mk hl434_3
      clear hi434_3 hl434_3
      have HR434_4 := Aside0.mk hi434_4
      have HC434_4 := Aside0.mk hl434_4
      clear hi434_4 hl434_4
      replace p434 := eq_true p434
      replace q434 := eq_true q434
      go_wp2_with (first | (refine gL (some 18) rfl Tryz.func16 #[.slice A434_3 ((rd_T36 l0 x3_1).f3).length c434_3] ?_; (with_reducible refine (r08_Great.calls k1 _ _ ((rd_T36 l0 x3_1).f3) true _ ?side1 ?side2 A5.out).mono ?_); (case side1 => exact uC <| HR434_3.out); (case side2 => exact HC434_3.out); rintro e w' ⟨rfl, ⟨nd, rfl⟩⟩; refine ⟨_, rfl, ?_⟩))
      go_ret
      exact ⟨rs_, dr_⟩
     ·
      replace c6 := Bool.eq_false_iff.mpr c6
      subst c6
      rw [if_neg (show ¬ (false = true) by decide)] at H
      obtain ⟨t437, A7, H⟩ := bs H
      try dsimp only at H
      by_cases c8 : t437 = true
      ·
       subst c8
       rw [if_pos rfl] at H
       obtain rfl := Option.some.inj H
       have p434 : 0 ≤ (x3_1 : Int) := od
       have q434 : x3_1 < (l0.length : Int) := od
       obtain ⟨ad434, A434_3, c434_3, A434_4, c434_4, e434, hx434_0, hx434_1, hx434_2, hx434_3, hx434_4, hl434_3, hi434_3, hl434_4, hi434_4⟩ := at_T36 HR0.out x3_1 p434 q434
       cases e434
       have HR434_3 := Aside0.mk hi434_3
       have HC434_3 := Aside0.mk hl434_3
       clear hi434_3 hl434_3
       have HR434_4 := Aside0.mk hi434_4
       have HC434_4 := Aside0.mk hl434_4
       clear hi434_4 hl434_4
       replace p434 := eq_true p434
       replace q434 := eq_true q434
       go_wp2_with (first | (refine gL (some 18) rfl Tryz.func16 #[.slice A434_3 ((rd_T36 l0 x3_1).f3).length c434_3] ?_; (with_reducible refine (r08_Great.calls k1 _ _ ((rd_T36 l0 x3_1).f3) false _ ?side1 ?side2 A5.out).mono ?_); (case side1 => exact uC <| HR434_3.out); (case side2 => exact HC434_3.out); rintro e w' ⟨rfl, ⟨nd, rfl⟩⟩; refine ⟨_, rfl, ?_⟩; have p436 : 0 ≤ (x3_1 : Int) := od; have q436 : x3_1 < (l0.length : Int) := od; obtain ⟨ad436, A436_3, c436_3, A436_4, c436_4, e436, hx436_0, hx436_1, hx436_2, hx436_3, hx436_4, hl436_3, hi436_3, hl436_4, hi436_4⟩ := at_T36 HR0.out x3_1 p436 q436; obtain rfl : ad434 = ad436 := (by injection e436); have HR436_3 := Aside0.mk hi436_3; have HC436_3 := Aside0.mk hl436_3; clear hi436_3 hl436_3; have HR436_4 := Aside0.mk hi436_4; have HC436_4 := Aside0.mk hl436_4; clear hi436_4 hl436_4; replace p436 := eq_true p436; replace q436 := eq_true q436; have ea_ := Option.some.inj (hx434_3.symm.trans hx436_3); injection ea_ with ea_ en_ ec_; subst ea_; subst ec_; clear en_; have ea_ := Option.some.inj (hx434_4.symm.trans hx436_4); injection ea_ with ea_ en_ ec_; subst ea_; subst ec_; clear en_) | (go_at_call 37; (with_reducible refine (r09_Great.calls k1 _ _ ((rd_T36 l0 x3_1).f4) true _ ?side1 ?side2 A7.out).mono ?_); (case side1 => exact uC <| HR436_4.out); (case side2 => exact HC436_4.out); rintro e w' ⟨rfl, ⟨nd, rfl⟩⟩))
       go_ret
       exact ⟨rs_, dr_⟩
      ·
       replace c8 := Bool.eq_false_iff.mpr c8
       subst c8
       rw [if_neg (show ¬ (false = true) by decide)] at H
       have H' := Aside0.mk H
       clear H
       have p434 : 0 ≤ (x3_1 : Int) := od
       have q434 : x3_1 < (l0.length : Int) := od
       obtain ⟨ad434, A434_3, c434_3, A434_4, c434_4, e434, hx434_0, hx434_1, hx434_2, hx434_3, hx434_4, hl434_3, hi434_3, hl434_4, hi434_4⟩ := at_T36 HR0.out x3_1 p434 q434
       cases e434
       have HR434_3 := Aside0.mk hi434_3
       have HC434_3 := Aside0.mk hl434_3
       clear hi434_3 hl434_3
       have HR434_4 := Aside0.mk hi434_4
       have HC434_4 := Aside0.mk hl434_4
       clear hi434_4 hl434_4
       replace p434 := eq_true p434
       replace q434 := eq_true q434
       go_wp2_with (first | (refine gL (some 18) rfl Tryz.func16 #[.slice A434_3 ((rd_T36 l0 x3_1).f3).length c434_3] ?_; (with_reducible refine (r08_Great.calls k1 _ _ ((rd_T36 l0 x3_1).f3) false _ ?side1 ?side2 A5.out).mono ?_); (case side1 => exact uC <| HR434_3.out); (case side2 => exact HC434_3.out); rintro e w' ⟨rfl, ⟨nd, rfl⟩⟩; refine ⟨_, rfl, ?_⟩; have p436 : 0 ≤ (x3_1 : Int) := od; have q436 : x3_1 < (l0.length : Int) := od; obtain ⟨ad436, A436_3, c436_3, A436_4, c436_4, e436, hx436_0, hx436_1, hx436_2, hx436_3, hx436_4, hl436_3, hi436_3, hl436_4, hi436_4⟩ := at_T36 HR0.out x3_1 p436 q436; obtain rfl : ad434 = ad436 := (by injection e436); have HR436_3 := Aside0.mk hi436_3; have HC436_3 := Aside0.mk hl436_3; clear hi436_3 hl436_3; have HR436_4 := Aside0.mk hi436_4; have HC436_4 := Aside0.mk hl436_4; clear hi436_4 hl436_4; replace p436 := eq_true p436; replace q436 := eq_true q436; have ea_ := Option.some.inj (hx434_3.symm.trans hx436_3); injection ea_ with ea_ en_ ec_; subst ea_; subst ec_; clear en_; have ea_ := Option.some.inj (hx434_4.symm.trans hx436_4); injection ea_ with ea_ en_ ec_; subst ea_; subst ec_; clear en_) | (go_at_call 37; (with_reducible refine (r09_Great.calls k1 _ _ ((rd_T36 l0 x3_1).f4) false _ ?side1 ?side2 A7.out).mono ?_); (case side1 => exact uC <| HR436_4.out); (case side2 => exact HC436_4.out); rintro e w' ⟨rfl, ⟨nd, rfl⟩⟩))
       go_roundg k1
       case measure => have := HK1.out; omega
       case rel => exact ⟨(wrap64 (x3_1 + 1)), rs_, H', ⟨by have := HK1.out; omega⟩, dr_⟩
    ·
     rw [if_neg c3] at H
     have c3b0 : decide (x3_1 < (l0.length : Int)) = false := decide_eq_false c3
     clear c3
     obtain rfl := Option.some.inj H
     go_wp2
     go_ret
     exact ⟨rs_, dr_⟩
def r08_Same.l0 : Nat → List (S60) → List (S60) → Int → Option (Bool)
 | 0, _, _, _ => none
 | k + 1, x0, x1, x5 => if x5 < (x0.length : Int) then (if 0 ≤ x5 then (if x5 < (x1.length : Int) then (if (!(((rd_T60 x0 x5).f0) == ((rd_T60 x1 x5).f0)) || (!((((rd_T60 x0 x5).f1).toList) == (((rd_T60 x1 x5).f1).toList)) || ((!(((rd_T60 x0 x5).f2.f0) == ((rd_T60 x1 x5).f2.f0)) || (!(((rd_T60 x0 x5).f2.f1) == ((rd_T60 x1 x5).f2.f1))))))) = true then (some false) else (r08_Same.l0 k x0 x1 (wrap64 (x5 + 1)))) else (none)) else (none)) else (some true)
def r08_Same.f (k : Nat) (l0 : List (S60)) (l1 : List (S60)) : Option (Bool) := if (l0.length : Int) = (l1.length : Int) then (r08_Same.l0 k l0 l1 0) else (some false)
theorem r08_Same.mono_l : ∀ k, (∀ y0 y1 y2, LeC (r08_Same.l0 k y0 y1 y2) (r08_Same.l0 (k + 1) y0 y1 y2))
 | 0 => fun _ _ _ => ⟨fun r h => by simp [r08_Same.l0] at h⟩
 | k + 1 => by have ih0 := r08_Same.mono_l k; exact fun _ _ _ => by unfold r08_Same.l0; exact lm
theorem r08_Same.mono : ∀ a0 a1 k, LeO (r08_Same.f k a0 a1) (r08_Same.f (k + 1) a0 a1) := by
 intro a0 a1 k
 have ih0 := r08_Same.mono_l k
 unfold r08_Same.f
 exact lo
instance r08_Same.mI {a0 a1 k} : LeC (r08_Same.f k a0 a1) (r08_Same.f (k + 1) a0 a1) := ⟨r08_Same.mono _ _ _⟩
theorem r08_Same.calls (k : Nat) (A0 : Option Addr) (c0 : Nat) (l0 : List (S60)) (A1 : Option Addr) (c1 : Nat) (l1 : List (S60)) (r : Bool) (w : World) (hr0 : Kd.C k60 w A0 l0.length l0) (hc0 : l0.length ≤ c0) (hr1 : Kd.C k60 w A1 l1.length l1) (hc1 : l1.length ≤ c1) (h : r08_Same.f k l0 l1 = some r) :
 Calls Tryz.prog 31 #[.slice A0 l0.length c0, .slice A1 l1.length c1] w fun e w' => e = .returned (.bool r) ∧ Drawn0 w w' := by
 have hu60 := Tryz.underlying60
 have HR0 := Aside0.mk hr0
 have HC0 := Aside0.mk hc0
 clear hr0 hc0
 have HR1 := Aside0.mk hr1
 have HC1 := Aside0.mk hc1
 clear hr1 hc1
 have H : (if (l0.length : Int) = (l1.length : Int) then (r08_Same.l0 k l0 l1 0) else (some false)) = some r := h
 clear h
 by_cases c3 : (l0.length : Int) = (l1.length : Int)
 ·
  rw [if_pos c3] at H
  have c3b0 : ((l0.length : Int) == (l1.length : Int)) = true := beq_iff_eq.mpr c3
  have c3b1 : ((l0.length : Int) != (l1.length : Int)) = false := bne_eq_false_iff_eq.mpr c3
  have c3b2 : (l0.length == l1.length) = true := by first | simpa using c3 | (simp at c3 ⊢; omega)
  clear c3
  have H' := Aside0.mk H
  clear H
  go_enter Tryz.func31, Tryz.ntmps31
  go_wp2
  repeat (go_quiet (fail); try go_wp2)
  go_loopg [5] k (fun kq v5 w' => ∃ (x5_1 : Int), v5 = .int .i64 x5_1 ∧ Aside0 (r08_Same.l0 kq l0 l1 x5_1 = some r) ∧ Aside0 (kq ≤ k) ∧ Drawn0 w w')
  case atStart => exact ⟨(0), rs_, H', ⟨Nat.le_refl _⟩, dr_⟩
  case round =>
   clear H'
   try clear c1
   try clear c3
   try clear c3b0
   try clear c3b1
   try clear c3b2
   obtain ⟨x5_1, rfl, HA, HK1, ⟨m1, rfl⟩⟩ := hrel
   cases gk with
   | zero => exact absurd HA.out (by simp [r08_Same.l0])
   | succ k1 =>
    have H := HA.out
    clear HA
    simp only [r08_Same.l0] at H
    by_cases c4 : x5_1 < (l0.length : Int)
    ·
     rw [if_pos c4] at H
     have c4b0 : decide (x5_1 < (l0.length : Int)) = true := decide_eq_true c4
     clear c4
     obtain ⟨c5b0, H⟩ := gdd H
     obtain ⟨c6b0, H⟩ := gdd H
     by_cases c7 : (!(((rd_T60 l0 x5_1).f0) == ((rd_T60 l1 x5_1).f0)) || (!((((rd_T60 l0 x5_1).f1).toList) == (((rd_T60 l1 x5_1).f1).toList)) || ((!(((rd_T60 l0 x5_1).f2.f0) == ((rd_T60 l1 x5_1).f2.f0)) || (!(((rd_T60 l0 x5_1).f2.f1) == ((rd_T60 l1 x5_1).f2.f1))))))) = true
     ·
      rw [if_pos c7] at H
      have c7b0 : (!(((rd_T60 l0 x5_1).f0) == ((rd_T60 l1 x5_1).f0)) || (!((((rd_T60 l0 x5_1).f1).toList) == (((rd_T60 l1 x5_1).f1).toList)) || ((!(((rd_T60 l0 x5_1).f2.f0) == ((rd_T60 l1 x5_1).f2.f0)) || (!(((rd_T60 l0 x5_1).f2.f1) == ((rd_T60 l1 x5_1).f2.f1))))))) = true := c7
      clear c7
      obtain rfl := Option.some.inj H
      have p438 : 0 ≤ (x5_1 : Int) := od
      have q438 : x5_1 < (l0.length : Int) := od
      obtain ⟨ad438, e438, hx438_0, hx438_1, hx438_2, hx438_3⟩ := at_T60 HR0.out x5_1 p438 q438
      cases e438
      replace p438 := eq_true p438
      replace q438 := eq_true q438
      have p439 : 0 ≤ (x5_1 : Int) := od
      have q439 : x5_1 < (l1.length : Int) := od
      obtain ⟨ad439, e439, hx439_0, hx439_1, hx439_2, hx439_3⟩ := at_T60 HR1.out x5_1 p439 q439
      cases e439
      replace p439 := eq_true p439
      replace q439 := eq_true q439
      go_wp2
      repeat (go_quiet (fail); try go_wp2)
      go_ret
      exact ⟨rs_, dr_⟩
     ·
      rw [if_neg c7] at H
      have c7b0 : (!(((rd_T60 l0 x5_1).f0) == ((rd_T60 l1 x5_1).f0)) || (!((((rd_T60 l0 x5_1).f1).toList) == (((rd_T60 l1 x5_1).f1).toList)) || ((!(((rd_T60 l0 x5_1).f2.f0) == ((rd_T60 l1 x5_1).f2.f0)) || (!(((rd_T60 l0 x5_1).f2.f1) == ((rd_T60 l1 x5_1).f2.f1))))))) = false := by simpa using c7
      clear c7
      have H' := Aside0.mk H
      clear H
      have p438 : 0 ≤ (x5_1 : Int) := od
      have q438 : x5_1 < (l0.length : Int) := od
      obtain ⟨ad438, e438, hx438_0, hx438_1, hx438_2, hx438_3⟩ := at_T60 HR0.out x5_1 p438 q438
      cases e438
      replace p438 := eq_true p438
      replace q438 := eq_true q438
      have p439 : 0 ≤ (x5_1 : Int) := od
      have q439 : x5_1 < (l1.length : Int) := od
      obtain ⟨ad439, e439, hx439_0, hx439_1, hx439_2, hx439_3⟩ := at_T60 HR1.out x5_1 p439 q439
      cases e439
      replace p439 := eq_true p439
      replace q439 := eq_true q439
      go_wp2
      repeat (go_quiet (fail); try go_wp2)
      go_roundg k1
      case measure => have := HK1.out; omega
      case rel => exact ⟨(wrap64 (x5_1 + 1)), rs_, H', ⟨by have := HK1.out; omega⟩, dr_⟩
    ·
     rw [if_neg c4] at H
     have c4b0 : decide (x5_1 < (l0.length : Int)) = false := decide_eq_false c4
     clear c4
     obtain rfl := Option.some.inj H
     go_wp2
     repeat (go_quiet (fail); try go_wp2)
     go_ret
     exact ⟨rs_, dr_⟩
 ·
  rw [if_neg c3] at H
  have c3b0 : ((l0.length : Int) == (l1.length : Int)) = false := beq_eq_false_iff_ne.mpr c3
  have c3b1 : ((l0.length : Int) != (l1.length : Int)) = true := bne_iff_ne.mpr c3
  have c3b2 : (l0.length == l1.length) = false := by first | simpa using c3 | (simp at c3 ⊢; omega)
  obtain rfl := Option.some.inj H
  go_enter Tryz.func31, Tryz.ntmps31
  go_wp2
  repeat (go_quiet (fail); try go_wp2)
  go_ret
  exact ⟨rs_, dr_⟩
def r09_Same.l0 : Nat → List (S78) → List (S78) → Int → Option (Bool)
 | 0, _, _, _ => none
 | k + 1, x0, x1, x5 => if x5 < (x0.length : Int) then (if 0 ≤ x5 then (if x5 < (x1.length : Int) then (if ((!(((rd_T78 x0 x5).f0.f0) == ((rd_T78 x1 x5).f0.f0)) || (!((((rd_T78 x0 x5).f0.f1).toList) == (((rd_T78 x1 x5).f0.f1).toList)) || ((!(((rd_T78 x0 x5).f0.f2.f0) == ((rd_T78 x1 x5).f0.f2.f0)) || (!(((rd_T78 x0 x5).f0.f2.f1) == ((rd_T78 x1 x5).f0.f2.f1))))))) || (!(((rd_T78 x0 x5).f1) == ((rd_T78 x1 x5).f1)))) = true then (some false) else (r09_Same.l0 k x0 x1 (wrap64 (x5 + 1)))) else (none)) else (none)) else (some true)
def r09_Same.f (k : Nat) (l0 : List (S78)) (l1 : List (S78)) : Option (Bool) := if (l0.length : Int) = (l1.length : Int) then (r09_Same.l0 k l0 l1 0) else (some false)
theorem r09_Same.mono_l : ∀ k, (∀ y0 y1 y2, LeC (r09_Same.l0 k y0 y1 y2) (r09_Same.l0 (k + 1) y0 y1 y2))
 | 0 => fun _ _ _ => ⟨fun r h => by simp [r09_Same.l0] at h⟩
 | k + 1 => by have ih0 := r09_Same.mono_l k; exact fun _ _ _ => by unfold r09_Same.l0; exact lm
theorem r09_Same.mono : ∀ a0 a1 k, LeO (r09_Same.f k a0 a1) (r09_Same.f (k + 1) a0 a1) := by
 intro a0 a1 k
 have ih0 := r09_Same.mono_l k
 unfold r09_Same.f
 exact lo
instance r09_Same.mI {a0 a1 k} : LeC (r09_Same.f k a0 a1) (r09_Same.f (k + 1) a0 a1) := ⟨r09_Same.mono _ _ _⟩
theorem r09_Same.calls (k : Nat) (A0 : Option Addr) (c0 : Nat) (l0 : List (S78)) (A1 : Option Addr) (c1 : Nat) (l1 : List (S78)) (r : Bool) (w : World) (hr0 : Kd.C k78 w A0 l0.length l0) (hc0 : l0.length ≤ c0) (hr1 : Kd.C k78 w A1 l1.length l1) (hc1 : l1.length ≤ c1) (h : r09_Same.f k l0 l1 = some r) :
 Calls Tryz.prog 58 #[.slice A0 l0.length c0, .slice A1 l1.length c1] w fun e w' => e = .returned (.bool r) ∧ Drawn0 w w' := by
 have hu78 := Tryz.underlying78
 have HR0 := Aside0.mk hr0
 have HC0 := Aside0.mk hc0
 clear hr0 hc0
 have HR1 := Aside0.mk hr1
 have HC1 := Aside0.mk hc1
 clear hr1 hc1
 have H : (if (l0.length : Int) = (l1.length : Int) then (r09_Same.l0 k l0 l1 0) else (some false)) = some r := h
 clear h
 by_cases c3 : (l0.length : Int) = (l1.length : Int)
 ·
  rw [if_pos c3] at H
  have c3b0 : ((l0.length : Int) == (l1.length : Int)) = true := beq_iff_eq.mpr c3
  have c3b1 : ((l0.length : Int) != (l1.length : Int)) = false := bne_eq_false_iff_eq.mpr c3
  have c3b2 : (l0.length == l1.length) = true := by first | simpa using c3 | (simp at c3 ⊢; omega)
  clear c3
  have H' := Aside0.mk H
  clear H
  go_enter Tryz.func58, Tryz.ntmps58
  go_wp2
  repeat (go_quiet (fail); try go_wp2)
  go_loopg [5] k (fun kq v5 w' => ∃ (x5_1 : Int), v5 = .int .i64 x5_1 ∧ Aside0 (r09_Same.l0 kq l0 l1 x5_1 = some r) ∧ Aside0 (kq ≤ k) ∧ Drawn0 w w')
  case atStart => exact ⟨(0), rs_, H', ⟨Nat.le_refl _⟩, dr_⟩
  case round =>
   clear H'
   try clear c1
   try clear c3
   try clear c3b0
   try clear c3b1
   try clear c3b2
   obtain ⟨x5_1, rfl, HA, HK1, ⟨m1, rfl⟩⟩ := hrel
   cases gk with
   | zero => exact absurd HA.out (by simp [r09_Same.l0])
   | succ k1 =>
    have H := HA.out
    clear HA
    simp only [r09_Same.l0] at H
    by_cases c4 : x5_1 < (l0.length : Int)
    ·
     rw [if_pos c4] at H
     have c4b0 : decide (x5_1 < (l0.length : Int)) = true := decide_eq_true c4
     clear c4
     obtain ⟨c5b0, H⟩ := gdd H
     obtain ⟨c6b0, H⟩ := gdd H
     by_cases c7 : ((!(((rd_T78 l0 x5_1).f0.f0) == ((rd_T78 l1 x5_1).f0.f0)) || (!((((rd_T78 l0 x5_1).f0.f1).toList) == (((rd_T78 l1 x5_1).f0.f1).toList)) || ((!(((rd_T78 l0 x5_1).f0.f2.f0) == ((rd_T78 l1 x5_1).f0.f2.f0)) || (!(((rd_T78 l0 x5_1).f0.f2.f1) == ((rd_T78 l1 x5_1).f0.f2.f1))))))) || (!(((rd_T78 l0 x5_1).f1) == ((rd_T78 l1 x5_1).f1)))) = true
     ·
      rw [if_pos c7] at H
      have c7b0 : ((!(((rd_T78 l0 x5_1).f0.f0) == ((rd_T78 l1 x5_1).f0.f0)) || (!((((rd_T78 l0 x5_1).f0.f1).toList) == (((rd_T78 l1 x5_1).f0.f1).toList)) || ((!(((rd_T78 l0 x5_1).f0.f2.f0) == ((rd_T78 l1 x5_1).f0.f2.f0)) || (!(((rd_T78 l0 x5_1).f0.f2.f1) == ((rd_T78 l1 x5_1).f0.f2.f1))))))) || (!(((rd_T78 l0 x5_1).f1) == ((rd_T78 l1 x5_1).f1)))) = true := c7
      clear c7
      obtain rfl := Option.some.inj H
      have p440 : 0 ≤ (x5_1 : Int) := od
      have q440 : x5_1 < (l0.length : Int) := od
      obtain ⟨ad440, e440, hx440_0, hx440_1, hx440_2, hx440_3, hx440_4⟩ := at_T78 HR0.out x5_1 p440 q440
      cases e440
      replace p440 := eq_true p440
      replace q440 := eq_true q440
      have p441 : 0 ≤ (x5_1 : Int) := od
      have q441 : x5_1 < (l1.length : Int) := od
      obtain ⟨ad441, e441, hx441_0, hx441_1, hx441_2, hx441_3, hx441_4⟩ := at_T78 HR1.out x5_1 p441 q441
      cases e441
      replace p441 := eq_true p441
      replace q441 := eq_true q441
      go_wp2
      repeat (go_quiet (fail); try go_wp2)
      go_ret
      exact ⟨rs_, dr_⟩
     ·
      rw [if_neg c7] at H
      have c7b0 : ((!(((rd_T78 l0 x5_1).f0.f0) == ((rd_T78 l1 x5_1).f0.f0)) || (!((((rd_T78 l0 x5_1).f0.f1).toList) == (((rd_T78 l1 x5_1).f0.f1).toList)) || ((!(((rd_T78 l0 x5_1).f0.f2.f0) == ((rd_T78 l1 x5_1).f0.f2.f0)) || (!(((rd_T78 l0 x5_1).f0.f2.f1) == ((rd_T78 l1 x5_1).f0.f2.f1))))))) || (!(((rd_T78 l0 x5_1).f1) == ((rd_T78 l1 x5_1).f1)))) = false := by simpa using c7
      clear c7
      have H' := Aside0.mk H
      clear H
      have p440 : 0 ≤ (x5_1 : Int) := od
      have q440 : x5_1 < (l0.length : Int) := od
      obtain ⟨ad440, e440, hx440_0, hx440_1, hx440_2, hx440_3, hx440_4⟩ := at_T78 HR0.out x5_1 p440 q440
      cases e440
      replace p440 := eq_true p440
      replace q440 := eq_true q440
      have p441 : 0 ≤ (x5_1 : Int) := od
      have q441 : x5_1 < (l1.length : Int) := od
      obtain ⟨ad441, e441, hx441_0, hx441_1, hx441_2, hx441_3, hx441_4⟩ := at_T78 HR1.out x5_1 p441 q441
      cases e441
      replace p441 := eq_true p441
      replace q441 := eq_true q441
      go_wp2
      repeat (go_quiet (fail); try go_wp2)
      go_roundg k1
      case measure => have := HK1.out; omega
      case rel => exact ⟨(wrap64 (x5_1 + 1)), rs_, H', ⟨by have := HK1.out; omega⟩, dr_⟩
    ·
     rw [if_neg c4] at H
     have c4b0 : decide (x5_1 < (l0.length : Int)) = false := decide_eq_false c4
     clear c4
     obtain rfl := Option.some.inj H
     go_wp2
     repeat (go_quiet (fail); try go_wp2)
     go_ret
     exact ⟨rs_, dr_⟩
 ·
  rw [if_neg c3] at H
  have c3b0 : ((l0.length : Int) == (l1.length : Int)) = false := beq_eq_false_iff_ne.mpr c3
  have c3b1 : ((l0.length : Int) != (l1.length : Int)) = true := bne_iff_ne.mpr c3
  have c3b2 : (l0.length == l1.length) = false := by first | simpa using c3 | (simp at c3 ⊢; omega)
  obtain rfl := Option.some.inj H
  go_enter Tryz.func58, Tryz.ntmps58
  go_wp2
  repeat (go_quiet (fail); try go_wp2)
  go_ret
  exact ⟨rs_, dr_⟩
def r19_Equal.f (k : Nat) (a0_0 : Int) (a0_1 : Int) (a0_2 : Int) (l0_3 : List (S60)) (l0_4 : List (S78)) (a1_0 : Int) (a1_1 : Int) (a1_2 : Int) (l1_3 : List (S60)) (l1_4 : List (S78)) : Option (Bool) := if a0_0 = a1_0 then (if a0_1 = a1_1 then (if a0_2 = a1_2 then ((r08_Same.f k l0_3 l1_3).bind fun t444 => (if t444 = true then ((r09_Same.f k l0_4 l1_4).bind fun t445 => (some t445)) else (some false))) else (some false)) else (some false)) else (some false)
theorem r19_Equal.mono : ∀ a0 a1 a2 a3 a4 a5 a6 a7 a8 a9 k, LeO (r19_Equal.f k a0 a1 a2 a3 a4 a5 a6 a7 a8 a9) (r19_Equal.f (k + 1) a0 a1 a2 a3 a4 a5 a6 a7 a8 a9) := by
 intro a0 a1 a2 a3 a4 a5 a6 a7 a8 a9 k
 unfold r19_Equal.f
 exact lo
instance r19_Equal.mI {a0 a1 a2 a3 a4 a5 a6 a7 a8 a9 k} : LeC (r19_Equal.f k a0 a1 a2 a3 a4 a5 a6 a7 a8 a9) (r19_Equal.f (k + 1) a0 a1 a2 a3 a4 a5 a6 a7 a8 a9) := ⟨r19_Equal.mono _ _ _ _ _ _ _ _ _ _ _⟩
theorem r19_Equal.calls (k : Nat) (a0_0 : Int) (a0_1 : Int) (a0_2 : Int) (A0_3 : Option Addr) (c0_3 : Nat) (l0_3 : List (S60)) (A0_4 : Option Addr) (c0_4 : Nat) (l0_4 : List (S78)) (a1_0 : Int) (a1_1 : Int) (a1_2 : Int) (A1_3 : Option Addr) (c1_3 : Nat) (l1_3 : List (S60)) (A1_4 : Option Addr) (c1_4 : Nat) (l1_4 : List (S78)) (r : Bool) (w : World) (hr0_3 : Kd.C k60 w A0_3 l0_3.length l0_3) (hc0_3 : l0_3.length ≤ c0_3) (hr0_4 : Kd.C k78 w A0_4 l0_4.length l0_4) (hc0_4 : l0_4.length ≤ c0_4) (hr1_3 : Kd.C k60 w A1_3 l1_3.length l1_3) (hc1_3 : l1_3.length ≤ c1_3) (hr1_4 : Kd.C k78 w A1_4 l1_4.length l1_4) (hc1_4 : l1_4.length ≤ c1_4) (h : r19_Equal.f k a0_0 a0_1 a0_2 l0_3 l0_4 a1_0 a1_1 a1_2 l1_3 l1_4 = some r) :
 Calls Tryz.prog 29 #[.agg #[.int .i64 a0_0, .int .i64 a0_1, .int .i64 a0_2, .slice A0_3 l0_3.length c0_3, .slice A0_4 l0_4.length c0_4], .agg #[.int .i64 a1_0, .int .i64 a1_1, .int .i64 a1_2, .slice A1_3 l1_3.length c1_3, .slice A1_4 l1_4.length c1_4]] w fun e w' => e = .returned (.bool r) ∧ Below w.heap.size w w' := by
 have hu36 := Tryz.underlying36
 have HR0_3 := Aside0.mk hr0_3
 have HC0_3 := Aside0.mk hc0_3
 clear hr0_3 hc0_3
 have HR0_4 := Aside0.mk hr0_4
 have HC0_4 := Aside0.mk hc0_4
 clear hr0_4 hc0_4
 have HR1_3 := Aside0.mk hr1_3
 have HC1_3 := Aside0.mk hc1_3
 clear hr1_3 hc1_3
 have HR1_4 := Aside0.mk hr1_4
 have HC1_4 := Aside0.mk hc1_4
 clear hr1_4 hc1_4
 have HB := Aside0.mk (Below.refl w.heap.size w)
 have H : (if a0_0 = a1_0 then (if a0_1 = a1_1 then (if a0_2 = a1_2 then ((r08_Same.f k l0_3 l1_3).bind fun t444 => (if t444 = true then ((r09_Same.f k l0_4 l1_4).bind fun t445 => (some t445)) else (some false))) else (some false)) else (some false)) else (some false)) = some r := h
 clear h
 by_cases c3 : a0_0 = a1_0
 ·
  rw [if_pos c3] at H
  have c3b0 : (a0_0 == a1_0) = true := beq_iff_eq.mpr c3
  have c3b1 : (a0_0 != a1_0) = false := bne_eq_false_iff_eq.mpr c3
  clear c3
  by_cases c4 : a0_1 = a1_1
  ·
   rw [if_pos c4] at H
   have c4b0 : (a0_1 == a1_1) = true := beq_iff_eq.mpr c4
   have c4b1 : (a0_1 != a1_1) = false := bne_eq_false_iff_eq.mpr c4
   clear c4
   by_cases c5 : a0_2 = a1_2
   ·
    rw [if_pos c5] at H
    have c5b0 : (a0_2 == a1_2) = true := beq_iff_eq.mpr c5
    have c5b1 : (a0_2 != a1_2) = false := bne_eq_false_iff_eq.mpr c5
    clear c5
    obtain ⟨t444, A6, H⟩ := bs H
    try dsimp only at H
    by_cases c7 : t444 = true
    ·
     subst c7
     rw [if_pos rfl] at H
     obtain ⟨t445, A8, H⟩ := bs H
     try dsimp only at H
     obtain rfl := Option.some.inj H
     go_enter Tryz.func29, Tryz.ntmps29
     go_wp2_with (first | ((with_reducible refine gate_dst (N := 2) rfl ?_); refine bx (N := 2) #[.int .i64 a0_0, .int .i64 a0_1, .int .i64 a0_2, .slice A0_3 l0_3.length c0_3, .slice A0_4 l0_4.length c0_4] 36 ?_; intro gb442 hg w9 hbox hb; have BK442 := Aside0.mk (hbox); have GW442 := gw hg (uW HB.out); have GE442 := GW442; replace HB := cW HB hb; clear hb hbox hg) | ((with_reducible refine gate_dst (N := 3) rfl ?_); refine bx (N := 3) #[.int .i64 a1_0, .int .i64 a1_1, .int .i64 a1_2, .slice A1_3 l1_3.length c1_3, .slice A1_4 l1_4.length c1_4] 36 ?_; intro gb443 hg w10 hbox hb; have BK443 := Aside0.mk (hbox); have GW443 := gw hg bl; have GE443 := GW443; replace HB := Aside0.mk (below_step bl hb); have NB442_443 := nl BK442 hg; have NB443_442 := nr BK442 hg; replace BK442 := cB BK442 hb; clear hb hbox hg; have hnb11 := NB442_443.out; have hnc11 := NB443_442.out; obtain ⟨hcz12_0, hcz12_1, hcz12_2, hcz12_3, hcz12_4, hfz12_0, hfz12_1, hfz12_2, hfz12_3, hfz12_4⟩ := z5 BK442; obtain ⟨hcz13_0, hcz13_1, hcz13_2, hcz13_3, hcz13_4, hfz13_0, hfz13_1, hfz13_2, hfz13_3, hfz13_4⟩ := z5 BK443) | (go_at_call 31; (with_reducible refine (r08_Same.calls k _ _ l0_3 _ _ l1_3 true _ ?side1 ?side2 ?side3 ?side4 A6.out).mono ?_); (case side1 => exact uC <| (Kd.C_below HR0_3.out HB.out)); (case side2 => exact HC0_3.out); (case side3 => exact uC <| (Kd.C_below HR1_3.out HB.out)); (case side4 => exact HC1_3.out); rintro e w' ⟨rfl, ⟨nd, rfl⟩⟩) | (go_at_call 58; (with_reducible refine (r09_Same.calls k _ _ l0_4 _ _ l1_4 t445 _ ?side1 ?side2 ?side3 ?side4 A8.out).mono ?_); (case side1 => exact (Kd.C_below HR0_4.out bl)); (case side2 => exact HC0_4.out); (case side3 => exact (Kd.C_below HR1_4.out bl)); (case side4 => exact HC1_4.out); rintro e w' ⟨rfl, ⟨nd, rfl⟩⟩))
     go_ret
     exact ⟨re_, bl⟩
    ·
     replace c7 := Bool.eq_false_iff.mpr c7
     subst c7
     rw [if_neg (show ¬ (false = true) by decide)] at H
     obtain rfl := Option.some.inj H
     go_enter Tryz.func29, Tryz.ntmps29
     go_wp2_with (first | ((with_reducible refine gate_dst (N := 2) rfl ?_); refine bx (N := 2) #[.int .i64 a0_0, .int .i64 a0_1, .int .i64 a0_2, .slice A0_3 l0_3.length c0_3, .slice A0_4 l0_4.length c0_4] 36 ?_; intro gb442 hg w14 hbox hb; have BK442 := Aside0.mk (hbox); have GW442 := gw hg (uW HB.out); have GE442 := GW442; replace HB := cW HB hb; clear hb hbox hg) | ((with_reducible refine gate_dst (N := 3) rfl ?_); refine bx (N := 3) #[.int .i64 a1_0, .int .i64 a1_1, .int .i64 a1_2, .slice A1_3 l1_3.length c1_3, .slice A1_4 l1_4.length c1_4] 36 ?_; intro gb443 hg w15 hbox hb; have BK443 := Aside0.mk (hbox); have GW443 := gw hg bl; have GE443 := GW443; replace HB := Aside0.mk (below_step bl hb); have NB442_443 := nl BK442 hg; have NB443_442 := nr BK442 hg; replace BK442 := cB BK442 hb; clear hb hbox hg; have hnb16 := NB442_443.out; have hnc16 := NB443_442.out; obtain ⟨hcz17_0, hcz17_1, hcz17_2, hcz17_3, hcz17_4, hfz17_0, hfz17_1, hfz17_2, hfz17_3, hfz17_4⟩ := z5 BK442; obtain ⟨hcz18_0, hcz18_1, hcz18_2, hcz18_3, hcz18_4, hfz18_0, hfz18_1, hfz18_2, hfz18_3, hfz18_4⟩ := z5 BK443) | (go_at_call 31; (with_reducible refine (r08_Same.calls k _ _ l0_3 _ _ l1_3 false _ ?side1 ?side2 ?side3 ?side4 A6.out).mono ?_); (case side1 => exact uC <| (Kd.C_below HR0_3.out HB.out)); (case side2 => exact HC0_3.out); (case side3 => exact uC <| (Kd.C_below HR1_3.out HB.out)); (case side4 => exact HC1_3.out); rintro e w' ⟨rfl, ⟨nd, rfl⟩⟩))
     go_ret
     exact ⟨re_, bl⟩
   ·
    rw [if_neg c5] at H
    have c5b0 : (a0_2 == a1_2) = false := beq_eq_false_iff_ne.mpr c5
    have c5b1 : (a0_2 != a1_2) = true := bne_iff_ne.mpr c5
    obtain rfl := Option.some.inj H
    go_enter Tryz.func29, Tryz.ntmps29
    go_wp2_with (first | ((with_reducible refine gate_dst (N := 2) rfl ?_); refine bx (N := 2) #[.int .i64 a0_0, .int .i64 a0_1, .int .i64 a0_2, .slice A0_3 l0_3.length c0_3, .slice A0_4 l0_4.length c0_4] 36 ?_; intro gb442 hg w19 hbox hb; have BK442 := Aside0.mk (hbox); have GW442 := gw hg (uW HB.out); have GE442 := GW442; replace HB := cW HB hb; clear hb hbox hg) | ((with_reducible refine gate_dst (N := 3) rfl ?_); refine bx (N := 3) #[.int .i64 a1_0, .int .i64 a1_1, .int .i64 a1_2, .slice A1_3 l1_3.length c1_3, .slice A1_4 l1_4.length c1_4] 36 ?_; intro gb443 hg w20 hbox hb; have BK443 := Aside0.mk (hbox); have GW443 := gw hg bl; have GE443 := GW443; replace HB := Aside0.mk (below_step bl hb); have NB442_443 := nl BK442 hg; have NB443_442 := nr BK442 hg; replace BK442 := cB BK442 hb; clear hb hbox hg; have hnb21 := NB442_443.out; have hnc21 := NB443_442.out; obtain ⟨hcz22_0, hcz22_1, hcz22_2, hcz22_3, hcz22_4, hfz22_0, hfz22_1, hfz22_2, hfz22_3, hfz22_4⟩ := z5 BK442; obtain ⟨hcz23_0, hcz23_1, hcz23_2, hcz23_3, hcz23_4, hfz23_0, hfz23_1, hfz23_2, hfz23_3, hfz23_4⟩ := z5 BK443))
    go_ret
    exact ⟨re_, bl⟩
  ·
   rw [if_neg c4] at H
   have c4b0 : (a0_1 == a1_1) = false := beq_eq_false_iff_ne.mpr c4
   have c4b1 : (a0_1 != a1_1) = true := bne_iff_ne.mpr c4
   obtain rfl := Option.some.inj H
   go_enter Tryz.func29, Tryz.ntmps29
   go_wp2_with (first | ((with_reducible refine gate_dst (N := 2) rfl ?_); refine bx (N := 2) #[.int .i64 a0_0, .int .i64 a0_1, .int .i64 a0_2, .slice A0_3 l0_3.length c0_3, .slice A0_4 l0_4.length c0_4] 36 ?_; intro gb442 hg w24 hbox hb; have BK442 := Aside0.mk (hbox); have GW442 := gw hg (uW HB.out); have GE442 := GW442; replace HB := cW HB hb; clear hb hbox hg) | ((with_reducible refine gate_dst (N := 3) rfl ?_); refine bx (N := 3) #[.int .i64 a1_0, .int .i64 a1_1, .int .i64 a1_2, .slice A1_3 l1_3.length c1_3, .slice A1_4 l1_4.length c1_4] 36 ?_; intro gb443 hg w25 hbox hb; have BK443 := Aside0.mk (hbox); have GW443 := gw hg bl; have GE443 := GW443; replace HB := Aside0.mk (below_step bl hb); have NB442_443 := nl BK442 hg; have NB443_442 := nr BK442 hg; replace BK442 := cB BK442 hb; clear hb hbox hg; have hnb26 := NB442_443.out; have hnc26 := NB443_442.out; obtain ⟨hcz27_0, hcz27_1, hcz27_2, hcz27_3, hcz27_4, hfz27_0, hfz27_1, hfz27_2, hfz27_3, hfz27_4⟩ := z5 BK442; obtain ⟨hcz28_0, hcz28_1, hcz28_2, hcz28_3, hcz28_4, hfz28_0, hfz28_1, hfz28_2, hfz28_3, hfz28_4⟩ := z5 BK443))
   go_ret
   exact ⟨re_, bl⟩
 ·
  rw [if_neg c3] at H
  have c3b0 : (a0_0 == a1_0) = false := beq_eq_false_iff_ne.mpr c3
  have c3b1 : (a0_0 != a1_0) = true := bne_iff_ne.mpr c3
  obtain rfl := Option.some.inj H
  go_enter Tryz.func29, Tryz.ntmps29
  go_wp2_with (first | ((with_reducible refine gate_dst (N := 2) rfl ?_); refine bx (N := 2) #[.int .i64 a0_0, .int .i64 a0_1, .int .i64 a0_2, .slice A0_3 l0_3.length c0_3, .slice A0_4 l0_4.length c0_4] 36 ?_; intro gb442 hg w29 hbox hb; have BK442 := Aside0.mk (hbox); have GW442 := gw hg (uW HB.out); have GE442 := GW442; replace HB := cW HB hb; clear hb hbox hg) | ((with_reducible refine gate_dst (N := 3) rfl ?_); refine bx (N := 3) #[.int .i64 a1_0, .int .i64 a1_1, .int .i64 a1_2, .slice A1_3 l1_3.length c1_3, .slice A1_4 l1_4.length c1_4] 36 ?_; intro gb443 hg w30 hbox hb; have BK443 := Aside0.mk (hbox); have GW443 := gw hg bl; have GE443 := GW443; replace HB := Aside0.mk (below_step bl hb); have NB442_443 := nl BK442 hg; have NB443_442 := nr BK442 hg; replace BK442 := cB BK442 hb; clear hb hbox hg; have hnb31 := NB442_443.out; have hnc31 := NB443_442.out; obtain ⟨hcz32_0, hcz32_1, hcz32_2, hcz32_3, hcz32_4, hfz32_0, hfz32_1, hfz32_2, hfz32_3, hfz32_4⟩ := z5 BK442; obtain ⟨hcz33_0, hcz33_1, hcz33_2, hcz33_3, hcz33_4, hfz33_0, hfz33_1, hfz33_2, hfz33_3, hfz33_4⟩ := z5 BK443))
  go_ret
  exact ⟨re_, bl⟩
def r02_Split.l0 : Nat → ByteArray → Int → List ByteArray → Int → Int → Option (List ByteArray)
 | 0, _, _, _, _, _ => none
 | k + 1, x0, x1, x5, x6, x7 => if x7 < (x0.size : Int) then (if 0 ≤ x7 then (if (bt x0 x7) = x1 then (if 0 ≤ x6 then (if x6 ≤ x7 then (if x7 ≤ (x0.size : Int) then (if x5.length < 8796093022208 then (r02_Split.l0 k x0 x1 (x5 ++ [x0.extract (x6 : Int).toNat (x7 : Int).toNat]) (wrap64 (x7 + 1)) (wrap64 (x7 + 1))) else (none)) else (none)) else (none)) else (none)) else (r02_Split.l0 k x0 x1 x5 x6 (wrap64 (x7 + 1)))) else (none)) else (if 0 ≤ x6 then (if x6 ≤ (x0.size : Int) then (if x5.length < 8796093022208 then (some (x5 ++ [x0.extract (x6 : Int).toNat x0.size])) else (none)) else (none)) else (none))
def r02_Split.f (k : Nat) (a0 : ByteArray) (a1 : Int) : Option (List ByteArray) := r02_Split.l0 k a0 a1 ([] : List ByteArray) 0 0
theorem r02_Split.mono_l : ∀ k, (∀ y0 y1 y2 y3 y4, LeC (r02_Split.l0 k y0 y1 y2 y3 y4) (r02_Split.l0 (k + 1) y0 y1 y2 y3 y4))
 | 0 => fun _ _ _ _ _ => ⟨fun r h => by simp [r02_Split.l0] at h⟩
 | k + 1 => by have ih0 := r02_Split.mono_l k; exact fun _ _ _ _ _ => by unfold r02_Split.l0; exact lm
theorem r02_Split.mono : ∀ a0 a1 k, LeO (r02_Split.f k a0 a1) (r02_Split.f (k + 1) a0 a1) := by
 intro a0 a1 k
 have ih0 := r02_Split.mono_l k
 unfold r02_Split.f
 exact lo
instance r02_Split.mI {a0 a1 k} : LeC (r02_Split.f k a0 a1) (r02_Split.f (k + 1) a0 a1) := ⟨r02_Split.mono _ _ _⟩
theorem r02_Split.calls (k : Nat) (a0 : ByteArray) (a1 : Int) (r : List ByteArray) (w : World) (h : r02_Split.f k a0 a1 = some r) :
 Calls Tryz.prog 47 #[.string a0, .int .u8 a1] w fun e w' => ∃ v0_ : Value, e = .returned (v0_) ∧ Kd.R Kd.string 9 w' w.heap.size (fun _ => True) v0_ r ∧ Below w.heap.size w w' := by
 have HB := Aside0.mk (Below.refl w.heap.size w)
 have H : (r02_Split.l0 k a0 a1 ([] : List ByteArray) 0 0) = some r := h
 clear h
 have H' := Aside0.mk H
 clear H
 go_enter Tryz.func47, Tryz.ntmps47
 go_wp2
 go_loopg [5, 6, 7] k (fun kq v5 v6 v7 w' => ∃ (x5_1 : List ByteArray) (x6_1 : Int) (x7_1 : Int), v6 = .int .i64 x6_1 ∧ v7 = .int .i64 x7_1 ∧ Aside0 (r02_Split.l0 kq a0 a1 x5_1 x6_1 x7_1 = some r) ∧ Aside0 (kq ≤ k) ∧ Aside0 (Kd.R Kd.string 9 w' w.heap.size (fun _ => True) v5 x5_1) ∧ Aside0 (Below w.heap.size w w'))
 case atStart => exact ⟨(([] : List ByteArray)), (0), (0), rs_, rs_, H', ⟨Nat.le_refl _⟩, ⟨nl_⟩, ⟨uW HB.out⟩⟩
 case round =>
  clear H'
  obtain ⟨x5_1, x6_1, x7_1, rfl, rfl, HA, HK1, HO_5, HB⟩ := hrel
  cases gk with
  | zero => exact absurd HA.out (by simp [r02_Split.l0])
  | succ k1 =>
   have H := HA.out
   clear HA
   simp only [r02_Split.l0] at H
   by_cases c3 : x7_1 < (a0.size : Int)
   ·
    rw [if_pos c3] at H
    have c3b0 : decide (x7_1 < (a0.size : Int)) = true := decide_eq_true c3
    clear c3
    obtain ⟨c4b0, H⟩ := gdd H
    by_cases c6 : (bt a0 x7_1) = a1
    ·
     rw [if_pos c6] at H
     have c6b0 : ((bt a0 x7_1) == a1) = true := beq_iff_eq.mpr c6
     have c6b1 : ((bt a0 x7_1) != a1) = false := bne_eq_false_iff_eq.mpr c6
     clear c6
     obtain ⟨c7, H⟩ := gd H
     have c7b0 := eq_true c7
     have c7b1 : decide (0 ≤ x6_1) = true := decide_eq_true c7
     clear c7
     obtain ⟨c8, H⟩ := gd H
     have c8b0 := eq_true c8
     have c8b1 : decide (x6_1 ≤ x7_1) = true := decide_eq_true c8
     clear c8
     obtain ⟨c9, H⟩ := gd H
     have c9b0 := eq_true c9
     have c9b1 : decide (x7_1 ≤ (a0.size : Int)) = true := decide_eq_true c9
     clear c9
     obtain ⟨c10, H⟩ := gd H
     have LMc10 := Aside0.mk c10
     clear c10
     obtain ⟨y446, hy446⟩ : ∃ y_ : List ByteArray, y_ = (x5_1 ++ [a0.extract (x6_1 : Int).toNat (x7_1 : Int).toNat]) := ⟨_, rfl⟩
     replace H : (r02_Split.l0 k1 a0 a1 y446 (wrap64 (x7_1 + 1)) (wrap64 (x7_1 + 1))) = some r := by first | (rw [hy446]; with_reducible exact H) | (have H2_ := (Option.bind_some _ _).symm.trans H; rw [hy446]; with_reducible exact H2_) | (have H2_ := (Option.bind_some _ _).symm.trans H; with_reducible exact H2_) | with_reducible exact H | (rw [hy446]; exact H) | exact H
     have Ny446 := Aside0.mk hy446
     clear hy446
     have H' := Aside0.mk H
     clear H
     have p5 : 0 ≤ (x7_1 : Int) := od
     have q5 : x7_1 < (a0.size : Int) := od
     have hx5 := bt_at a0 x7_1
     replace p5 := eq_true p5
     replace q5 := eq_true q5
     go_wp2_with (first | ((with_reducible refine gate_builtin (b := .append) (xs := #[.tmp 19, .tmp 24]) rfl ?_); at_builtin; refine Kd.R_append Kd.string (w0 := w) w.heap.size rfl (.tmp 19) (.tmp 24) 56 9 (.string ⟨#[]⟩) 16 rfl Tryz.underlying56 info9 rfl (by decide) (by omega) u5 x5_1 (a0.extract (x6_1 : Int).toNat (x7_1 : Int).toNat) [.string (a0.extract (x6_1 : Int).toNat (x7_1 : Int).toNat)] (fun _ => True) (fun _ => False) rfl rfl ?aP (fun _ hk => hk.elim) ?aF ?aO ?aB ?aS ?aL ?_; (case aP => exact rfl); (case aB => exact (uW HB.out)); (case aF => exact (fun _ _ => trivial)); (case aO => exact (uR HO_5.out)); (case aS => exact (below_size (uW HB.out))); (case aL => have := LMc10.out; omega); intro v447 w11 ho hb hg hat; rw [← Ny446.out] at ho; replace HB := Aside0.mk (hb); have HO448 := Aside0.mk (ho); clear HO_5; clear ho hb hg hat))
     go_roundg k1
     case measure => have := HK1.out; omega
     case rel => exact ⟨(y446), (wrap64 (x7_1 + 1)), (wrap64 (x7_1 + 1)), rs_, rs_, H', ⟨by have := HK1.out; omega⟩, ⟨uR HO448.out⟩, ⟨uW HB.out⟩⟩
    ·
     rw [if_neg c6] at H
     have c6b0 : ((bt a0 x7_1) == a1) = false := beq_eq_false_iff_ne.mpr c6
     have c6b1 : ((bt a0 x7_1) != a1) = true := bne_iff_ne.mpr c6
     have H' := Aside0.mk H
     clear H
     have p5 : 0 ≤ (x7_1 : Int) := od
     have q5 : x7_1 < (a0.size : Int) := od
     have hx5 := bt_at a0 x7_1
     replace p5 := eq_true p5
     replace q5 := eq_true q5
     go_wp2
     go_roundg k1
     case measure => have := HK1.out; omega
     case rel => exact ⟨(x5_1), (x6_1), (wrap64 (x7_1 + 1)), rs_, rs_, H', ⟨by have := HK1.out; omega⟩, ⟨uR HO_5.out⟩, ⟨uW HB.out⟩⟩
   ·
    rw [if_neg c3] at H
    have c3b0 : decide (x7_1 < (a0.size : Int)) = false := decide_eq_false c3
    clear c3
    by_cases c12 : 0 ≤ x6_1
    ·
     rw [if_pos c12] at H
     have c12b0 := eq_true c12
     have c12b1 : decide (0 ≤ x6_1) = true := decide_eq_true c12
     clear c12
     obtain ⟨c13, H⟩ := gd H
     have c13b0 := eq_true c13
     have c13b1 : decide (x6_1 ≤ (a0.size : Int)) = true := decide_eq_true c13
     clear c13
     obtain ⟨c14, H⟩ := gd H
     have LMc14 := Aside0.mk c14
     clear c14
     obtain ⟨y449, hy449⟩ : ∃ y_ : List ByteArray, y_ = (x5_1 ++ [a0.extract (x6_1 : Int).toNat a0.size]) := ⟨_, rfl⟩
     replace H : (some y449) = some r := by first | (rw [hy449]; with_reducible exact H) | (have H2_ := (Option.bind_some _ _).symm.trans H; rw [hy449]; with_reducible exact H2_) | (have H2_ := (Option.bind_some _ _).symm.trans H; with_reducible exact H2_) | with_reducible exact H | (rw [hy449]; exact H) | exact H
     have Ny449 := Aside0.mk hy449
     clear hy449
     obtain rfl := Option.some.inj H
     go_wp2_with (first | ((with_reducible refine gate_builtin (b := .append) (xs := #[.tmp 28, .tmp 32]) rfl ?_); at_builtin; refine Kd.R_append Kd.string (w0 := w) w.heap.size rfl (.tmp 28) (.tmp 32) 56 9 (.string ⟨#[]⟩) 16 rfl Tryz.underlying56 info9 rfl (by decide) (by omega) u5 x5_1 (a0.extract (x6_1 : Int).toNat a0.size) [.string (a0.extract (x6_1 : Int).toNat a0.size)] (fun _ => True) (fun _ => False) rfl rfl ?aP (fun _ hk => hk.elim) ?aF ?aO ?aB ?aS ?aL ?_; (case aP => exact rfl); (case aB => exact (uW HB.out)); (case aF => exact (fun _ _ => trivial)); (case aO => exact (uR HO_5.out)); (case aS => exact (below_size (uW HB.out))); (case aL => have := LMc14.out; omega); intro v450 w15 ho hb hg hat; rw [← Ny449.out] at ho; replace HB := Aside0.mk (hb); have HO451 := Aside0.mk (ho); clear HO_5; clear ho hb hg hat))
     go_ret
     exact ⟨_, re_, uR HO451.out, uW HB.out⟩
    ·
     rw [if_neg c12] at H
     exact absurd H (by simp)
def r02_Join.l0 : Nat → ByteArray → List ByteArray → ByteArray → Int → Option (ByteArray)
 | 0, _, _, _, _ => none
 | k + 1, x0, x1, x5, x6 => if x6 < (x1.length : Int) then (if x6 > 0 then (if x5.size + x0.size ≤ 9223372036854775807 then (if 0 ≤ x6 then (if (x5 ++ x0).size + (rdOf ByteArray.empty x1 x6).size ≤ 9223372036854775807 then (r02_Join.l0 k x0 x1 ((x5 ++ x0) ++ (rdOf ByteArray.empty x1 x6)) (wrap64 (x6 + 1))) else (none)) else (none)) else (none)) else (if 0 ≤ x6 then (if x5.size + (rdOf ByteArray.empty x1 x6).size ≤ 9223372036854775807 then (r02_Join.l0 k x0 x1 (x5 ++ (rdOf ByteArray.empty x1 x6)) (wrap64 (x6 + 1))) else (none)) else (none))) else (some x5)
def r02_Join.f (k : Nat) (a0 : ByteArray) (l1 : List ByteArray) : Option (ByteArray) := r02_Join.l0 k a0 l1 (⟨#[]⟩ : ByteArray) 0
theorem r02_Join.mono_l : ∀ k, (∀ y0 y1 y2 y3, LeC (r02_Join.l0 k y0 y1 y2 y3) (r02_Join.l0 (k + 1) y0 y1 y2 y3))
 | 0 => fun _ _ _ _ => ⟨fun r h => by simp [r02_Join.l0] at h⟩
 | k + 1 => by have ih0 := r02_Join.mono_l k; exact fun _ _ _ _ => by unfold r02_Join.l0; exact lm
theorem r02_Join.mono : ∀ a0 a1 k, LeO (r02_Join.f k a0 a1) (r02_Join.f (k + 1) a0 a1) := by
 intro a0 a1 k
 have ih0 := r02_Join.mono_l k
 unfold r02_Join.f
 exact lo
instance r02_Join.mI {a0 a1 k} : LeC (r02_Join.f k a0 a1) (r02_Join.f (k + 1) a0 a1) := ⟨r02_Join.mono _ _ _⟩
theorem r02_Join.calls (k : Nat) (a0 : ByteArray) (A1 : Option Addr) (c1 : Nat) (l1 : List ByteArray) (r : ByteArray) (w : World) (hr1 : Kd.C Kd.string w A1 l1.length l1) (hc1 : l1.length ≤ c1) (h : r02_Join.f k a0 l1 = some r) :
 Calls Tryz.prog 66 #[.string a0, .slice A1 l1.length c1] w fun e w' => e = .returned (.string r) ∧ Drawn0 w w' := by
 have HR1 := Aside0.mk hr1
 have HC1 := Aside0.mk hc1
 clear hr1 hc1
 have H : (r02_Join.l0 k a0 l1 (⟨#[]⟩ : ByteArray) 0) = some r := h
 clear h
 have H' := Aside0.mk H
 clear H
 go_enter Tryz.func66, Tryz.ntmps66
 go_wp2
 go_loopg [5, 6] k (fun kq v5 v6 w' => ∃ (x5_1 : ByteArray) (x6_1 : Int), v5 = .string x5_1 ∧ v6 = .int .i64 x6_1 ∧ Aside0 (r02_Join.l0 kq a0 l1 x5_1 x6_1 = some r) ∧ Aside0 (kq ≤ k) ∧ Drawn0 w w')
 case atStart => exact ⟨((⟨#[]⟩ : ByteArray)), (0), rs_, rs_, H', ⟨Nat.le_refl _⟩, dr_⟩
 case round =>
  clear H'
  try clear c1
  obtain ⟨x5_1, x6_1, rfl, rfl, HA, HK1, ⟨m1, rfl⟩⟩ := hrel
  cases gk with
  | zero => exact absurd HA.out (by simp [r02_Join.l0])
  | succ k1 =>
   have H := HA.out
   clear HA
   simp only [r02_Join.l0] at H
   by_cases c3 : x6_1 < (l1.length : Int)
   ·
    rw [if_pos c3] at H
    have c3b0 : decide (x6_1 < (l1.length : Int)) = true := decide_eq_true c3
    clear c3
    by_cases c4 : x6_1 > 0
    ·
     rw [if_pos c4] at H
     have c4b0 : decide (0 < x6_1) = true := decide_eq_true c4
     clear c4
     obtain ⟨c5, H⟩ := gd H
     have c5b0 := eq_true c5
     have c5b1 : decide (x5_1.size + a0.size ≤ 9223372036854775807) = true := decide_eq_true c5
     try have c5b2 : (9223372036854775807 < x5_1.size + a0.size) = False := eq_false (Nat.not_lt.2 c5)
     obtain ⟨c6b0, H⟩ := gdd H
     obtain ⟨c7, H⟩ := gd H
     have c7b0 := eq_true c7
     have c7b1 : decide ((x5_1 ++ a0).size + (rdOf ByteArray.empty l1 x6_1).size ≤ 9223372036854775807) = true := decide_eq_true c7
     try have c7b2 : (9223372036854775807 < (x5_1 ++ a0).size + (rdOf ByteArray.empty l1 x6_1).size) = False := eq_false (Nat.not_lt.2 c7)
     try have c7b8 := c7b2
     try simp only [ByteArray.size_append] at c7b8
     have H' := Aside0.mk H
     clear H
     have p452 : 0 ≤ (x6_1 : Int) := od
     have q452 : x6_1 < (l1.length : Int) := od
     obtain ⟨ad452, e452, hx452_0⟩ := Kd.at_string HR1.out x6_1 p452 q452
     cases e452
     replace p452 := eq_true p452
     replace q452 := eq_true q452
     go_wp2
     go_roundg k1
     case measure => have := HK1.out; omega
     case rel => exact ⟨((x5_1 ++ a0) ++ (rdOf ByteArray.empty l1 x6_1)), (wrap64 (x6_1 + 1)), rs_, rs_, H', ⟨by have := HK1.out; omega⟩, dr_⟩
    ·
     rw [if_neg c4] at H
     have c4b0 : decide (0 < x6_1) = false := decide_eq_false c4
     clear c4
     obtain ⟨c8b0, H⟩ := gdd H
     obtain ⟨c9, H⟩ := gd H
     have c9b0 := eq_true c9
     have c9b1 : decide (x5_1.size + (rdOf ByteArray.empty l1 x6_1).size ≤ 9223372036854775807) = true := decide_eq_true c9
     try have c9b2 : (9223372036854775807 < x5_1.size + (rdOf ByteArray.empty l1 x6_1).size) = False := eq_false (Nat.not_lt.2 c9)
     have H' := Aside0.mk H
     clear H
     have p453 : 0 ≤ (x6_1 : Int) := od
     have q453 : x6_1 < (l1.length : Int) := od
     obtain ⟨ad453, e453, hx453_0⟩ := Kd.at_string HR1.out x6_1 p453 q453
     cases e453
     replace p453 := eq_true p453
     replace q453 := eq_true q453
     go_wp2
     go_roundg k1
     case measure => have := HK1.out; omega
     case rel => exact ⟨(x5_1 ++ (rdOf ByteArray.empty l1 x6_1)), (wrap64 (x6_1 + 1)), rs_, rs_, H', ⟨by have := HK1.out; omega⟩, dr_⟩
   ·
    rw [if_neg c3] at H
    have c3b0 : decide (x6_1 < (l1.length : Int)) = false := decide_eq_false c3
    clear c3
    obtain rfl := Option.some.inj H
    go_wp2
    go_ret
    exact ⟨rs_, dr_⟩
def r02_small.f (a0 : Int) : Option (Bool) := if a0 ≥ 97 then (some (decide (a0 ≤ 122))) else (some false)
theorem r02_small.calls (a0 : Int) (r : Bool) (w : World) (h : r02_small.f a0 = some r) :
 Calls Tryz.prog 172 #[.int .u8 a0] w fun e w' => e = .returned (.bool r) ∧ Drawn0 w w' := by
 have H : (if a0 ≥ 97 then (some (decide (a0 ≤ 122))) else (some false)) = some r := h
 clear h
 by_cases c2 : a0 ≥ 97
 ·
  rw [if_pos c2] at H
  have c2b0 : decide (97 ≤ a0) = true := decide_eq_true c2
  clear c2
  obtain rfl := Option.some.inj H
  go_enter Tryz.func172, Tryz.ntmps172
  go_wp2
  go_ret
  exact ⟨rs_, dr_⟩
 ·
  rw [if_neg c2] at H
  have c2b0 : decide (97 ≤ a0) = false := decide_eq_false c2
  clear c2
  obtain rfl := Option.some.inj H
  go_enter Tryz.func172, Tryz.ntmps172
  go_wp2
  go_ret
  exact ⟨rs_, dr_⟩
def r02_digit.f (a0 : Int) : Option (Bool) := if a0 ≥ 48 then (some (decide (a0 ≤ 57))) else (some false)
theorem r02_digit.calls (a0 : Int) (r : Bool) (w : World) (h : r02_digit.f a0 = some r) :
 Calls Tryz.prog 173 #[.int .u8 a0] w fun e w' => e = .returned (.bool r) ∧ Drawn0 w w' := by
 have H : (if a0 ≥ 48 then (some (decide (a0 ≤ 57))) else (some false)) = some r := h
 clear h
 by_cases c2 : a0 ≥ 48
 ·
  rw [if_pos c2] at H
  have c2b0 : decide (48 ≤ a0) = true := decide_eq_true c2
  clear c2
  obtain rfl := Option.some.inj H
  go_enter Tryz.func173, Tryz.ntmps173
  go_wp2
  go_ret
  exact ⟨rs_, dr_⟩
 ·
  rw [if_neg c2] at H
  have c2b0 : decide (48 ≤ a0) = false := decide_eq_false c2
  clear c2
  obtain rfl := Option.some.inj H
  go_enter Tryz.func173, Tryz.ntmps173
  go_wp2
  go_ret
  exact ⟨rs_, dr_⟩
mutual
def r02_Name.j0 : Nat → ByteArray → Bool → Option (Bool)
 | 0, _, _ => none
 | k + 1, x0, x17 => if x17 = true then (some false) else (r02_Name.l0 k x0 0)
def r02_Name.l0 : Nat → ByteArray → Int → Option (Bool)
 | 0, _, _ => none
 | k + 1, x0, x3 => if x3 < (x0.size : Int) then (if 0 ≤ x3 then ((r02_small.f (bt x0 x3)).bind fun t455 => (if t455 = true then (r02_Name.l0 k x0 (wrap64 (x3 + 1))) else ((r02_digit.f (bt x0 x3)).bind fun t456 => (if t456 = true then (r02_Name.l0 k x0 (wrap64 (x3 + 1))) else (if (bt x0 x3) = 95 then (r02_Name.l0 k x0 (wrap64 (x3 + 1))) else (some false)))))) else (none)) else (some true)
end
def r02_Name.f (k : Nat) (a0 : ByteArray) : Option (Bool) := if (a0.size : Int) < 1 then (r02_Name.j0 k a0 true) else (if (a0.size : Int) > 12 then (r02_Name.j0 k a0 true) else (if 0 < (a0.size : Int) then ((r02_small.f (bt a0 0)).bind fun t454 => (r02_Name.j0 k a0 (!t454))) else (none)))
theorem r02_Name.mono_l : ∀ k, (∀ y0 y1, LeC (r02_Name.j0 k y0 y1) (r02_Name.j0 (k + 1) y0 y1)) ∧ (∀ y0 y1, LeC (r02_Name.l0 k y0 y1) (r02_Name.l0 (k + 1) y0 y1))
 | 0 => ⟨fun _ _ => ⟨fun r h => by simp [r02_Name.j0] at h⟩, fun _ _ => ⟨fun r h => by simp [r02_Name.l0] at h⟩⟩
 | k + 1 => by obtain ⟨ih0, ih1⟩ := r02_Name.mono_l k; exact ⟨fun _ _ => by unfold r02_Name.j0; exact lm, fun _ _ => by unfold r02_Name.l0; exact lm⟩
theorem r02_Name.mono : ∀ a0 k, LeO (r02_Name.f k a0) (r02_Name.f (k + 1) a0) := by
 intro a0 k
 obtain ⟨ih0, ih1⟩ := r02_Name.mono_l k
 unfold r02_Name.f
 exact lo
instance r02_Name.mI {a0 k} : LeC (r02_Name.f k a0) (r02_Name.f (k + 1) a0) := ⟨r02_Name.mono _ _⟩
theorem r02_Name.calls (k : Nat) (a0 : ByteArray) (r : Bool) (w : World) (h : r02_Name.f k a0 = some r) :
 Calls Tryz.prog 147 #[.string a0] w fun e w' => e = .returned (.bool r) ∧ Drawn0 w w' := by
 have H : (if (a0.size : Int) < 1 then (r02_Name.j0 k a0 true) else (if (a0.size : Int) > 12 then (r02_Name.j0 k a0 true) else (if 0 < (a0.size : Int) then ((r02_small.f (bt a0 0)).bind fun t454 => (r02_Name.j0 k a0 (!t454))) else (none)))) = some r := h
 clear h
 have HC2 := Aside0.mk H
 clear H
 go_enter Tryz.func147, Tryz.ntmps147
 go_upto_region 1 with (fail)
 go_cut [17] (fun v17 wc => ∃ (kq : Nat) (x17_1 : Bool), v17 = .bool x17_1 ∧ Aside0 (r02_Name.j0 kq a0 x17_1 = some r) ∧ Aside0 (kq ≤ k) ∧ Drawn0 w wc)
 case first =>
  have H := HC2.out
  clear HC2
  by_cases c3 : (a0.size : Int) < 1
  ·
   rw [if_pos c3] at H
   have c3b0 : decide ((a0.size : Int) < 1) = true := decide_eq_true c3
   have c3b1 : decide (a0.size < 1) = true := decide_eq_true (by omega)
   clear c3
   (first | rw [c3b0] | (simp only [i64_w, i32_w]; rw [c3b0]) | skip)
   have H' := Aside0.mk H
   clear H
   go_wp2
   go_meet
   case rel => exact ⟨_, (true), rs_, H', ⟨by first | omega | exact Nat.le_refl _⟩, dr_⟩
  ·
   rw [if_neg c3] at H
   have c3b0 : decide ((a0.size : Int) < 1) = false := decide_eq_false c3
   have c3b1 : decide (a0.size < 1) = false := decide_eq_false (by omega)
   clear c3
   (first | rw [c3b0] | (simp only [i64_w, i32_w]; rw [c3b0]) | skip)
   by_cases c4 : (a0.size : Int) > 12
   ·
    rw [if_pos c4] at H
    have c4b0 : decide (12 < (a0.size : Int)) = true := decide_eq_true c4
    have c4b1 : decide (12 < a0.size) = true := decide_eq_true (by omega)
    clear c4
    have H' := Aside0.mk H
    clear H
    go_wp2
    go_meet
    case rel => exact ⟨_, (true), rs_, H', ⟨by first | omega | exact Nat.le_refl _⟩, dr_⟩
   ·
    rw [if_neg c4] at H
    have c4b0 : decide (12 < (a0.size : Int)) = false := decide_eq_false c4
    have c4b1 : decide (12 < a0.size) = false := decide_eq_false (by omega)
    clear c4
    obtain ⟨c5, H⟩ := gd H
    have c5b0 : decide (0 < (a0.size : Int)) = true := decide_eq_true c5
    have c5b1 : decide (0 < a0.size) = true := decide_eq_true (by omega)
    clear c5
    obtain ⟨t454, A7, H⟩ := bs H
    try dsimp only at H
    have H' := Aside0.mk H
    clear H
    have p6 : 0 ≤ (0 : Int) := (by omega)
    have q6 : 0 < a0.size := (by have : (0 : Int) < (a0.size : Int) := od; omega)
    have hx6 : ∀ h : 0 < a0.size, ((a0[0]'h).toNat : Int) = bt a0 0 := bt_at a0 0
    clear p6
    have qi6 : (0 < (a0.size : Int)) = True := eq_true (od)
    replace q6 := eq_true q6
    go_wp2_with (first | (go_at_call 172; (with_reducible refine (r02_small.calls (bt a0 0) t454 _ A7.out).mono ?_); rintro e w' ⟨rfl, ⟨nd, rfl⟩⟩))
    go_meet
    case rel => exact ⟨_, (!t454), rs_, H', ⟨by first | omega | exact Nat.le_refl _⟩, dr_⟩
 case rest =>
  clear HC2
  obtain ⟨kq, x17_1, rfl, HA, HJ1, ⟨mc1, rfl⟩⟩ := hcut
  cases kq with
  | zero => exact absurd HA.out (by simp [r02_Name.j0])
  | succ kj1 =>
   have H := HA.out
   clear HA
   simp only [r02_Name.j0] at H
   by_cases c8 : x17_1 = true
   ·
    subst c8
    rw [if_pos rfl] at H
    obtain rfl := Option.some.inj H
    go_wp2
    go_ret
    exact ⟨rs_, dr_⟩
   ·
    replace c8 := Bool.eq_false_iff.mpr c8
    subst c8
    rw [if_neg (show ¬ (false = true) by decide)] at H
    have H' := Aside0.mk H
    clear H
    go_wp2
    go_loopg [3] kj1 (fun kq v3 w' => ∃ (x3_2 : Int), v3 = .int .i64 x3_2 ∧ Aside0 (r02_Name.l0 kq a0 x3_2 = some r) ∧ Aside0 (kq ≤ kj1) ∧ Drawn0 w w')
    case atStart => exact ⟨(0), rs_, H', ⟨Nat.le_refl _⟩, dr_⟩
    case round =>
     clear H'
     try clear c1
     try clear p2 p2
     try clear c3
     try clear c3b0
     try clear c3b1
     try clear c4
     try clear c4b0
     try clear c4b1
     try clear c5
     try clear c5b0
     try clear c5b1
     try clear p6 p6
     try clear q6 q6
     try clear hx6
     try clear qi6
     try clear c8
     obtain ⟨x3_2, rfl, HA, HK2, ⟨m2, rfl⟩⟩ := hrel
     cases gk with
     | zero => exact absurd HA.out (by simp [r02_Name.l0])
     | succ k2 =>
      have H := HA.out
      clear HA
      simp only [r02_Name.l0] at H
      by_cases c9 : x3_2 < (a0.size : Int)
      ·
       rw [if_pos c9] at H
       have c9b0 : decide (x3_2 < (a0.size : Int)) = true := decide_eq_true c9
       clear c9
       obtain ⟨c10b0, H⟩ := gdd H
       obtain ⟨t455, A12, H⟩ := bs H
       try dsimp only at H
       by_cases c13 : t455 = true
       ·
        subst c13
        rw [if_pos rfl] at H
        have H' := Aside0.mk H
        clear H
        have p11 : 0 ≤ (x3_2 : Int) := od
        have q11 : x3_2 < (a0.size : Int) := od
        have hx11 := bt_at a0 x3_2
        replace p11 := eq_true p11
        replace q11 := eq_true q11
        go_wp2_with (first | (refine gL (some 27) rfl Tryz.func172 #[.int .u8 (bt a0 x3_2)] ?_; (with_reducible refine (r02_small.calls (bt a0 x3_2) true _ A12.out).mono ?_); rintro e w' ⟨rfl, ⟨nd, rfl⟩⟩; refine ⟨_, rfl, ?_⟩))
        go_roundg k2
        case measure => have := HJ1.out; have := HK2.out; omega
        case rel => exact ⟨(wrap64 (x3_2 + 1)), rs_, H', ⟨by have := HJ1.out; have := HK2.out; omega⟩, dr_⟩
       ·
        replace c13 := Bool.eq_false_iff.mpr c13
        subst c13
        rw [if_neg (show ¬ (false = true) by decide)] at H
        obtain ⟨t456, A15, H⟩ := bs H
        try dsimp only at H
        by_cases c16 : t456 = true
        ·
         subst c16
         rw [if_pos rfl] at H
         have H' := Aside0.mk H
         clear H
         have p11 : 0 ≤ (x3_2 : Int) := od
         have q11 : x3_2 < (a0.size : Int) := od
         have hx11 := bt_at a0 x3_2
         replace p11 := eq_true p11
         replace q11 := eq_true q11
         go_wp2_with (first | (refine gL (some 27) rfl Tryz.func172 #[.int .u8 (bt a0 x3_2)] ?_; (with_reducible refine (r02_small.calls (bt a0 x3_2) false _ A12.out).mono ?_); rintro e w' ⟨rfl, ⟨nd, rfl⟩⟩; refine ⟨_, rfl, ?_⟩; have p14 : 0 ≤ (x3_2 : Int) := od; have q14 : x3_2 < (a0.size : Int) := od; have hx14 := bt_at a0 x3_2; replace p14 := eq_true p14; replace q14 := eq_true q14) | (go_at_call 173; (with_reducible refine (r02_digit.calls (bt a0 x3_2) true _ A15.out).mono ?_); rintro e w' ⟨rfl, ⟨nd, rfl⟩⟩))
         go_roundg k2
         case measure => have := HJ1.out; have := HK2.out; omega
         case rel => exact ⟨(wrap64 (x3_2 + 1)), rs_, H', ⟨by have := HJ1.out; have := HK2.out; omega⟩, dr_⟩
        ·
         replace c16 := Bool.eq_false_iff.mpr c16
         subst c16
         rw [if_neg (show ¬ (false = true) by decide)] at H
         by_cases c18 : (bt a0 x3_2) = 95
         ·
          rw [if_pos c18] at H
          have c18b0 : ((bt a0 x3_2) == 95) = true := beq_iff_eq.mpr c18
          have c18b1 : ((bt a0 x3_2) != 95) = false := bne_eq_false_iff_eq.mpr c18
          clear c18
          have H' := Aside0.mk H
          clear H
          have p11 : 0 ≤ (x3_2 : Int) := od
          have q11 : x3_2 < (a0.size : Int) := od
          have hx11 := bt_at a0 x3_2
          replace p11 := eq_true p11
          replace q11 := eq_true q11
          go_wp2_with (first | (refine gL (some 27) rfl Tryz.func172 #[.int .u8 (bt a0 x3_2)] ?_; (with_reducible refine (r02_small.calls (bt a0 x3_2) false _ A12.out).mono ?_); rintro e w' ⟨rfl, ⟨nd, rfl⟩⟩; refine ⟨_, rfl, ?_⟩; have p14 : 0 ≤ (x3_2 : Int) := od; have q14 : x3_2 < (a0.size : Int) := od; have hx14 := bt_at a0 x3_2; replace p14 := eq_true p14; replace q14 := eq_true q14) | (go_at_call 173; (with_reducible refine (r02_digit.calls (bt a0 x3_2) false _ A15.out).mono ?_); rintro e w' ⟨rfl, ⟨nd, rfl⟩⟩; have p17 : 0 ≤ (x3_2 : Int) := od; have q17 : x3_2 < (a0.size : Int) := od; have hx17 := bt_at a0 x3_2; replace p17 := eq_true p17; replace q17 := eq_true q17))
          go_roundg k2
          case measure => have := HJ1.out; have := HK2.out; omega
          case rel => exact ⟨(wrap64 (x3_2 + 1)), rs_, H', ⟨by have := HJ1.out; have := HK2.out; omega⟩, dr_⟩
         ·
          rw [if_neg c18] at H
          have c18b0 : ((bt a0 x3_2) == 95) = false := beq_eq_false_iff_ne.mpr c18
          have c18b1 : ((bt a0 x3_2) != 95) = true := bne_iff_ne.mpr c18
          obtain rfl := Option.some.inj H
          have p11 : 0 ≤ (x3_2 : Int) := od
          have q11 : x3_2 < (a0.size : Int) := od
          have hx11 := bt_at a0 x3_2
          replace p11 := eq_true p11
          replace q11 := eq_true q11
          go_wp2_with (first | (refine gL (some 27) rfl Tryz.func172 #[.int .u8 (bt a0 x3_2)] ?_; (with_reducible refine (r02_small.calls (bt a0 x3_2) false _ A12.out).mono ?_); rintro e w' ⟨rfl, ⟨nd, rfl⟩⟩; refine ⟨_, rfl, ?_⟩; have p14 : 0 ≤ (x3_2 : Int) := od; have q14 : x3_2 < (a0.size : Int) := od; have hx14 := bt_at a0 x3_2; replace p14 := eq_true p14; replace q14 := eq_true q14) | (go_at_call 173; (with_reducible refine (r02_digit.calls (bt a0 x3_2) false _ A15.out).mono ?_); rintro e w' ⟨rfl, ⟨nd, rfl⟩⟩; have p17 : 0 ≤ (x3_2 : Int) := od; have q17 : x3_2 < (a0.size : Int) := od; have hx17 := bt_at a0 x3_2; replace p17 := eq_true p17; replace q17 := eq_true q17))
          go_ret
          exact ⟨rs_, dr_⟩
      ·
       rw [if_neg c9] at H
       have c9b0 : decide (x3_2 < (a0.size : Int)) = false := decide_eq_false c9
       clear c9
       obtain rfl := Option.some.inj H
       go_wp2
       go_ret
       exact ⟨rs_, dr_⟩
mutual
def r02_Value.j0 : Nat → ByteArray → Bool → Option (Bool)
 | 0, _, _ => none
 | k + 1, x0, x11 => if x11 = true then (some false) else (r02_Value.l0 k x0 0)
def r02_Value.l0 : Nat → ByteArray → Int → Option (Bool)
 | 0, _, _ => none
 | k + 1, x0, x3 => if x3 < (x0.size : Int) then (if 0 ≤ x3 then ((r02_small.f (bt x0 x3)).bind fun t457 => (if t457 = true then (r02_Value.l0 k x0 (wrap64 (x3 + 1))) else ((r02_digit.f (bt x0 x3)).bind fun t458 => (if t458 = true then (r02_Value.l0 k x0 (wrap64 (x3 + 1))) else (if (bt x0 x3) = 95 then (r02_Value.l0 k x0 (wrap64 (x3 + 1))) else (if (bt x0 x3) = 45 then (r02_Value.l0 k x0 (wrap64 (x3 + 1))) else (if (bt x0 x3) = 46 then (r02_Value.l0 k x0 (wrap64 (x3 + 1))) else (some false)))))))) else (none)) else (some true)
end
def r02_Value.f (k : Nat) (a0 : ByteArray) : Option (Bool) := if (a0.size : Int) < 1 then (r02_Value.j0 k a0 true) else (r02_Value.j0 k a0 (decide ((a0.size : Int) > 12)))
theorem r02_Value.mono_l : ∀ k, (∀ y0 y1, LeC (r02_Value.j0 k y0 y1) (r02_Value.j0 (k + 1) y0 y1)) ∧ (∀ y0 y1, LeC (r02_Value.l0 k y0 y1) (r02_Value.l0 (k + 1) y0 y1))
 | 0 => ⟨fun _ _ => ⟨fun r h => by simp [r02_Value.j0] at h⟩, fun _ _ => ⟨fun r h => by simp [r02_Value.l0] at h⟩⟩
 | k + 1 => by obtain ⟨ih0, ih1⟩ := r02_Value.mono_l k; exact ⟨fun _ _ => by unfold r02_Value.j0; exact lm, fun _ _ => by unfold r02_Value.l0; exact lm⟩
theorem r02_Value.mono : ∀ a0 k, LeO (r02_Value.f k a0) (r02_Value.f (k + 1) a0) := by
 intro a0 k
 obtain ⟨ih0, ih1⟩ := r02_Value.mono_l k
 unfold r02_Value.f
 exact lo
instance r02_Value.mI {a0 k} : LeC (r02_Value.f k a0) (r02_Value.f (k + 1) a0) := ⟨r02_Value.mono _ _⟩
theorem r02_Value.calls (k : Nat) (a0 : ByteArray) (r : Bool) (w : World) (h : r02_Value.f k a0 = some r) :
 Calls Tryz.prog 148 #[.string a0] w fun e w' => e = .returned (.bool r) ∧ Drawn0 w w' := by
 have H : (if (a0.size : Int) < 1 then (r02_Value.j0 k a0 true) else (r02_Value.j0 k a0 (decide ((a0.size : Int) > 12)))) = some r := h
 clear h
 have HC2 := Aside0.mk H
 clear H
 go_enter Tryz.func148, Tryz.ntmps148
 go_upto_region 1 with (fail)
 go_cut [11] (fun v11 wc => ∃ (kq : Nat) (x11_1 : Bool), v11 = .bool x11_1 ∧ Aside0 (r02_Value.j0 kq a0 x11_1 = some r) ∧ Aside0 (kq ≤ k) ∧ Drawn0 w wc)
 case first =>
  have H := HC2.out
  clear HC2
  by_cases c3 : (a0.size : Int) < 1
  ·
   rw [if_pos c3] at H
   have c3b0 : decide ((a0.size : Int) < 1) = true := decide_eq_true c3
   have c3b1 : decide (a0.size < 1) = true := decide_eq_true (by omega)
   clear c3
   (first | rw [c3b0] | (simp only [i64_w, i32_w]; rw [c3b0]) | skip)
   have H' := Aside0.mk H
   clear H
   go_wp2
   go_meet
   case rel => exact ⟨_, (true), rs_, H', ⟨by first | omega | exact Nat.le_refl _⟩, dr_⟩
  ·
   rw [if_neg c3] at H
   have c3b0 : decide ((a0.size : Int) < 1) = false := decide_eq_false c3
   have c3b1 : decide (a0.size < 1) = false := decide_eq_false (by omega)
   clear c3
   (first | rw [c3b0] | (simp only [i64_w, i32_w]; rw [c3b0]) | skip)
   have H' := Aside0.mk H
   clear H
   go_wp2
   go_meet
   case rel => exact ⟨_, (decide ((a0.size : Int) > 12)), rs_, H', ⟨by first | omega | exact Nat.le_refl _⟩, dr_⟩
 case rest =>
  clear HC2
  obtain ⟨kq, x11_1, rfl, HA, HJ1, ⟨mc1, rfl⟩⟩ := hcut
  cases kq with
  | zero => exact absurd HA.out (by simp [r02_Value.j0])
  | succ kj1 =>
   have H := HA.out
   clear HA
   simp only [r02_Value.j0] at H
   by_cases c4 : x11_1 = true
   ·
    subst c4
    rw [if_pos rfl] at H
    obtain rfl := Option.some.inj H
    go_wp2
    go_ret
    exact ⟨rs_, dr_⟩
   ·
    replace c4 := Bool.eq_false_iff.mpr c4
    subst c4
    rw [if_neg (show ¬ (false = true) by decide)] at H
    have H' := Aside0.mk H
    clear H
    go_wp2
    go_loopg [3] kj1 (fun kq v3 w' => ∃ (x3_2 : Int), v3 = .int .i64 x3_2 ∧ Aside0 (r02_Value.l0 kq a0 x3_2 = some r) ∧ Aside0 (kq ≤ kj1) ∧ Drawn0 w w')
    case atStart => exact ⟨(0), rs_, H', ⟨Nat.le_refl _⟩, dr_⟩
    case round =>
     clear H'
     try clear c1
     try clear p2 p2
     try clear c3
     try clear c3b0
     try clear c3b1
     try clear c4
     obtain ⟨x3_2, rfl, HA, HK2, ⟨m2, rfl⟩⟩ := hrel
     cases gk with
     | zero => exact absurd HA.out (by simp [r02_Value.l0])
     | succ k2 =>
      have H := HA.out
      clear HA
      simp only [r02_Value.l0] at H
      by_cases c5 : x3_2 < (a0.size : Int)
      ·
       rw [if_pos c5] at H
       have c5b0 : decide (x3_2 < (a0.size : Int)) = true := decide_eq_true c5
       clear c5
       obtain ⟨c6b0, H⟩ := gdd H
       obtain ⟨t457, A8, H⟩ := bs H
       try dsimp only at H
       by_cases c9 : t457 = true
       ·
        subst c9
        rw [if_pos rfl] at H
        have H' := Aside0.mk H
        clear H
        have p7 : 0 ≤ (x3_2 : Int) := od
        have q7 : x3_2 < (a0.size : Int) := od
        have hx7 := bt_at a0 x3_2
        replace p7 := eq_true p7
        replace q7 := eq_true q7
        go_wp2_with (first | (refine gL (some 21) rfl Tryz.func172 #[.int .u8 (bt a0 x3_2)] ?_; (with_reducible refine (r02_small.calls (bt a0 x3_2) true _ A8.out).mono ?_); rintro e w' ⟨rfl, ⟨nd, rfl⟩⟩; refine ⟨_, rfl, ?_⟩))
        go_roundg k2
        case measure => have := HJ1.out; have := HK2.out; omega
        case rel => exact ⟨(wrap64 (x3_2 + 1)), rs_, H', ⟨by have := HJ1.out; have := HK2.out; omega⟩, dr_⟩
       ·
        replace c9 := Bool.eq_false_iff.mpr c9
        subst c9
        rw [if_neg (show ¬ (false = true) by decide)] at H
        obtain ⟨t458, A11, H⟩ := bs H
        try dsimp only at H
        by_cases c12 : t458 = true
        ·
         subst c12
         rw [if_pos rfl] at H
         have H' := Aside0.mk H
         clear H
         have p7 : 0 ≤ (x3_2 : Int) := od
         have q7 : x3_2 < (a0.size : Int) := od
         have hx7 := bt_at a0 x3_2
         replace p7 := eq_true p7
         replace q7 := eq_true q7
         go_wp2_with (first | (refine gL (some 21) rfl Tryz.func172 #[.int .u8 (bt a0 x3_2)] ?_; (with_reducible refine (r02_small.calls (bt a0 x3_2) false _ A8.out).mono ?_); rintro e w' ⟨rfl, ⟨nd, rfl⟩⟩; refine ⟨_, rfl, ?_⟩; have p10 : 0 ≤ (x3_2 : Int) := od; have q10 : x3_2 < (a0.size : Int) := od; have hx10 := bt_at a0 x3_2; replace p10 := eq_true p10; replace q10 := eq_true q10) | (go_at_call 173; (with_reducible refine (r02_digit.calls (bt a0 x3_2) true _ A11.out).mono ?_); rintro e w' ⟨rfl, ⟨nd, rfl⟩⟩))
         go_roundg k2
         case measure => have := HJ1.out; have := HK2.out; omega
         case rel => exact ⟨(wrap64 (x3_2 + 1)), rs_, H', ⟨by have := HJ1.out; have := HK2.out; omega⟩, dr_⟩
        ·
         replace c12 := Bool.eq_false_iff.mpr c12
         subst c12
         rw [if_neg (show ¬ (false = true) by decide)] at H
         by_cases c14 : (bt a0 x3_2) = 95
         ·
          rw [if_pos c14] at H
          have c14b0 : ((bt a0 x3_2) == 95) = true := beq_iff_eq.mpr c14
          have c14b1 : ((bt a0 x3_2) != 95) = false := bne_eq_false_iff_eq.mpr c14
          clear c14
          have H' := Aside0.mk H
          clear H
          have p7 : 0 ≤ (x3_2 : Int) := od
          have q7 : x3_2 < (a0.size : Int) := od
          have hx7 := bt_at a0 x3_2
          replace p7 := eq_true p7
          replace q7 := eq_true q7
          go_wp2_with (first | (refine gL (some 21) rfl Tryz.func172 #[.int .u8 (bt a0 x3_2)] ?_; (with_reducible refine (r02_small.calls (bt a0 x3_2) false _ A8.out).mono ?_); rintro e w' ⟨rfl, ⟨nd, rfl⟩⟩; refine ⟨_, rfl, ?_⟩; have p10 : 0 ≤ (x3_2 : Int) := od; have q10 : x3_2 < (a0.size : Int) := od; have hx10 := bt_at a0 x3_2; replace p10 := eq_true p10; replace q10 := eq_true q10) | (go_at_call 173; (with_reducible refine (r02_digit.calls (bt a0 x3_2) false _ A11.out).mono ?_); rintro e w' ⟨rfl, ⟨nd, rfl⟩⟩; have p13 : 0 ≤ (x3_2 : Int) := od; have q13 : x3_2 < (a0.size : Int) := od; have hx13 := bt_at a0 x3_2; replace p13 := eq_true p13; replace q13 := eq_true q13))
          go_roundg k2
          case measure => have := HJ1.out; have := HK2.out; omega
          case rel => exact ⟨(wrap64 (x3_2 + 1)), rs_, H', ⟨by have := HJ1.out; have := HK2.out; omega⟩, dr_⟩
         ·
          rw [if_neg c14] at H
          have c14b0 : ((bt a0 x3_2) == 95) = false := beq_eq_false_iff_ne.mpr c14
          have c14b1 : ((bt a0 x3_2) != 95) = true := bne_iff_ne.mpr c14
          by_cases c16 : (bt a0 x3_2) = 45
          ·
           rw [if_pos c16] at H
           have c16b0 : ((bt a0 x3_2) == 45) = true := beq_iff_eq.mpr c16
           have c16b1 : ((bt a0 x3_2) != 45) = false := bne_eq_false_iff_eq.mpr c16
           clear c16
           have H' := Aside0.mk H
           clear H
           have p7 : 0 ≤ (x3_2 : Int) := od
           have q7 : x3_2 < (a0.size : Int) := od
           have hx7 := bt_at a0 x3_2
           replace p7 := eq_true p7
           replace q7 := eq_true q7
           go_wp2_with (first | (refine gL (some 21) rfl Tryz.func172 #[.int .u8 (bt a0 x3_2)] ?_; (with_reducible refine (r02_small.calls (bt a0 x3_2) false _ A8.out).mono ?_); rintro e w' ⟨rfl, ⟨nd, rfl⟩⟩; refine ⟨_, rfl, ?_⟩; have p10 : 0 ≤ (x3_2 : Int) := od; have q10 : x3_2 < (a0.size : Int) := od; have hx10 := bt_at a0 x3_2; replace p10 := eq_true p10; replace q10 := eq_true q10) | (go_at_call 173; (with_reducible refine (r02_digit.calls (bt a0 x3_2) false _ A11.out).mono ?_); rintro e w' ⟨rfl, ⟨nd, rfl⟩⟩; have p13 : 0 ≤ (x3_2 : Int) := od; have q13 : x3_2 < (a0.size : Int) := od; have hx13 := bt_at a0 x3_2; replace p13 := eq_true p13; replace q13 := eq_true q13; have p15 : 0 ≤ (x3_2 : Int) := od; have q15 : x3_2 < (a0.size : Int) := od; have hx15 := bt_at a0 x3_2; replace p15 := eq_true p15; replace q15 := eq_true q15))
           go_roundg k2
           case measure => have := HJ1.out; have := HK2.out; omega
           case rel => exact ⟨(wrap64 (x3_2 + 1)), rs_, H', ⟨by have := HJ1.out; have := HK2.out; omega⟩, dr_⟩
          ·
           rw [if_neg c16] at H
           have c16b0 : ((bt a0 x3_2) == 45) = false := beq_eq_false_iff_ne.mpr c16
           have c16b1 : ((bt a0 x3_2) != 45) = true := bne_iff_ne.mpr c16
           by_cases c18 : (bt a0 x3_2) = 46
           ·
            rw [if_pos c18] at H
            have c18b0 : ((bt a0 x3_2) == 46) = true := beq_iff_eq.mpr c18
            have c18b1 : ((bt a0 x3_2) != 46) = false := bne_eq_false_iff_eq.mpr c18
            clear c18
            have H' := Aside0.mk H
            clear H
            have p7 : 0 ≤ (x3_2 : Int) := od
            have q7 : x3_2 < (a0.size : Int) := od
            have hx7 := bt_at a0 x3_2
            replace p7 := eq_true p7
            replace q7 := eq_true q7
            go_wp2_with (first | (refine gL (some 21) rfl Tryz.func172 #[.int .u8 (bt a0 x3_2)] ?_; (with_reducible refine (r02_small.calls (bt a0 x3_2) false _ A8.out).mono ?_); rintro e w' ⟨rfl, ⟨nd, rfl⟩⟩; refine ⟨_, rfl, ?_⟩; have p10 : 0 ≤ (x3_2 : Int) := od; have q10 : x3_2 < (a0.size : Int) := od; have hx10 := bt_at a0 x3_2; replace p10 := eq_true p10; replace q10 := eq_true q10) | (go_at_call 173; (with_reducible refine (r02_digit.calls (bt a0 x3_2) false _ A11.out).mono ?_); rintro e w' ⟨rfl, ⟨nd, rfl⟩⟩; have p13 : 0 ≤ (x3_2 : Int) := od; have q13 : x3_2 < (a0.size : Int) := od; have hx13 := bt_at a0 x3_2; replace p13 := eq_true p13; replace q13 := eq_true q13; have p15 : 0 ≤ (x3_2 : Int) := od; have q15 : x3_2 < (a0.size : Int) := od; have hx15 := bt_at a0 x3_2; replace p15 := eq_true p15; replace q15 := eq_true q15; have p17 : 0 ≤ (x3_2 : Int) := od; have q17 : x3_2 < (a0.size : Int) := od; have hx17 := bt_at a0 x3_2; replace p17 := eq_true p17; replace q17 := eq_true q17))
            go_roundg k2
            case measure => have := HJ1.out; have := HK2.out; omega
            case rel => exact ⟨(wrap64 (x3_2 + 1)), rs_, H', ⟨by have := HJ1.out; have := HK2.out; omega⟩, dr_⟩
           ·
            rw [if_neg c18] at H
            have c18b0 : ((bt a0 x3_2) == 46) = false := beq_eq_false_iff_ne.mpr c18
            have c18b1 : ((bt a0 x3_2) != 46) = true := bne_iff_ne.mpr c18
            obtain rfl := Option.some.inj H
            have p7 : 0 ≤ (x3_2 : Int) := od
            have q7 : x3_2 < (a0.size : Int) := od
            have hx7 := bt_at a0 x3_2
            replace p7 := eq_true p7
            replace q7 := eq_true q7
            go_wp2_with (first | (refine gL (some 21) rfl Tryz.func172 #[.int .u8 (bt a0 x3_2)] ?_; (with_reducible refine (r02_small.calls (bt a0 x3_2) false _ A8.out).mono ?_); rintro e w' ⟨rfl, ⟨nd, rfl⟩⟩; refine ⟨_, rfl, ?_⟩; have p10 : 0 ≤ (x3_2 : Int) := od; have q10 : x3_2 < (a0.size : Int) := od; have hx10 := bt_at a0 x3_2; replace p10 := eq_true p10; replace q10 := eq_true q10) | (go_at_call 173; (with_reducible refine (r02_digit.calls (bt a0 x3_2) false _ A11.out).mono ?_); rintro e w' ⟨rfl, ⟨nd, rfl⟩⟩; have p13 : 0 ≤ (x3_2 : Int) := od; have q13 : x3_2 < (a0.size : Int) := od; have hx13 := bt_at a0 x3_2; replace p13 := eq_true p13; replace q13 := eq_true q13; have p15 : 0 ≤ (x3_2 : Int) := od; have q15 : x3_2 < (a0.size : Int) := od; have hx15 := bt_at a0 x3_2; replace p15 := eq_true p15; replace q15 := eq_true q15; have p17 : 0 ≤ (x3_2 : Int) := od; have q17 : x3_2 < (a0.size : Int) := od; have hx17 := bt_at a0 x3_2; replace p17 := eq_true p17; replace q17 := eq_true q17))
            go_ret
            exact ⟨rs_, dr_⟩
      ·
       rw [if_neg c5] at H
       have c5b0 : decide (x3_2 < (a0.size : Int)) = false := decide_eq_false c5
       clear c5
       obtain rfl := Option.some.inj H
       go_wp2
       go_ret
       exact ⟨rs_, dr_⟩
def r03_may.f (k : Nat) (a0_0 : ByteArray) (a0_1 : ByteArray) : Option (Bool) := (r02_Name.f k a0_0).bind fun t460 => (if t460 = true then ((r02_Value.f k a0_1).bind fun t461 => (some t461)) else (some false))
theorem r03_may.mono : ∀ a0 a1 k, LeO (r03_may.f k a0 a1) (r03_may.f (k + 1) a0 a1) := by
 intro a0 a1 k
 unfold r03_may.f
 exact lo
instance r03_may.mI {a0 a1 k} : LeC (r03_may.f k a0 a1) (r03_may.f (k + 1) a0 a1) := ⟨r03_may.mono _ _ _⟩
theorem r03_may.calls (k : Nat) (a0_0 : ByteArray) (a0_1 : ByteArray) (r : Bool) (w : World) (h : r03_may.f k a0_0 a0_1 = some r) :
 Calls Tryz.prog 116 #[.agg #[.string a0_0, .string a0_1]] w fun e w' => e = .returned (.bool r) ∧ Below w.heap.size w w' := by
 have hu113 := Tryz.underlying113
 have HB := Aside0.mk (Below.refl w.heap.size w)
 have H : ((r02_Name.f k a0_0).bind fun t460 => (if t460 = true then ((r02_Value.f k a0_1).bind fun t461 => (some t461)) else (some false))) = some r := h
 clear h
 obtain ⟨t460, A2, H⟩ := bs H
 try dsimp only at H
 by_cases c3 : t460 = true
 ·
  subst c3
  rw [if_pos rfl] at H
  obtain ⟨t461, A4, H⟩ := bs H
  try dsimp only at H
  obtain rfl := Option.some.inj H
  go_enter Tryz.func116, Tryz.ntmps116
  go_wp2_with (first | ((with_reducible refine gate_dst (N := 1) rfl ?_); refine bx (N := 1) #[.string a0_0, .string a0_1] 113 ?_; intro gb459 hg w5 hbox hb; have BK459 := Aside0.mk (hbox); have GW459 := gw hg (uW HB.out); have GE459 := GW459; replace HB := cW HB hb; clear hb hbox hg; obtain ⟨hcz6_0, hcz6_1, hfz6_0, hfz6_1⟩ := z2 BK459) | (refine gL (some 5) rfl Tryz.func147 #[.string a0_0] ?_; (with_reducible refine (r02_Name.calls k a0_0 true _ A2.out).mono ?_); rintro e w' ⟨rfl, ⟨nd, rfl⟩⟩; refine ⟨_, rfl, ?_⟩) | (go_at_call 148; (with_reducible refine (r02_Value.calls k a0_1 t461 _ A4.out).mono ?_); rintro e w' ⟨rfl, ⟨nd, rfl⟩⟩))
  go_ret
  exact ⟨re_, bl⟩
 ·
  replace c3 := Bool.eq_false_iff.mpr c3
  subst c3
  rw [if_neg (show ¬ (false = true) by decide)] at H
  obtain rfl := Option.some.inj H
  go_enter Tryz.func116, Tryz.ntmps116
  go_wp2_with (first | ((with_reducible refine gate_dst (N := 1) rfl ?_); refine bx (N := 1) #[.string a0_0, .string a0_1] 113 ?_; intro gb459 hg w7 hbox hb; have BK459 := Aside0.mk (hbox); have GW459 := gw hg (uW HB.out); have GE459 := GW459; replace HB := cW HB hb; clear hb hbox hg; obtain ⟨hcz8_0, hcz8_1, hfz8_0, hfz8_1⟩ := z2 BK459) | (refine gL (some 5) rfl Tryz.func147 #[.string a0_0] ?_; (with_reducible refine (r02_Name.calls k a0_0 false _ A2.out).mono ?_); rintro e w' ⟨rfl, ⟨nd, rfl⟩⟩; refine ⟨_, rfl, ?_⟩))
  go_ret
  exact ⟨re_, bl⟩
end Go.Proofs.YteckidchnicjeaaGreatDoor.X
