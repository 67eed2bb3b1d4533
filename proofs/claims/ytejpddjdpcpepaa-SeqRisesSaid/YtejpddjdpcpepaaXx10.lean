/- Printed by a program of this session's own: what functions of the program compute, and that the machine computes it. -/
import Derived.Test.YtejpddjdpcpepaaXx0
import Derived.Test.YtejpddjdpcpepaaXx3
import Derived.Test.YtejpddjdpcpepaaXx4
import Derived.Test.YtejpddjdpcpepaaXx5
import Derived.Test.YtejpddjdpcpepaaXx8
import Derived.Test.YtejpddjdpcpepaaXx9
namespace Go.Proofs.Ytejpddjdpcpepaa.X
open Go.RowKit Go.Proofs.YtejpddjdpcpepaaW.PrintWords Go.Proofs.YtejpddjdpcpepaaW.PrintLast Go.Proofs.YtejpddjdpcpepaaW.PrintMore
attribute [local go_sem] max2_int min2_int max_two min_two max_three min_three max_four min_four   -- for this text's walks alone
set_option linter.unusedVariables false
set_option linter.unusedSimpArgs false

/-! ### ebbtideref14_Stable: function 23 -/
def ebbtideref14_Stable.l0 : Nat → Int → List (List (S29)) → Int → Bool → Int → Option (Int)
  | 0, _, _, _, _, _ => none
  | k + 1, x0, x1, x5, x6, x7 => if x7 < (x1.length : Int) then (if 0 ≤ x7 then (if ((rd_L3 x1 x7).length : Int) > 0 then (if x6 = true then (if 0 < ((rd_L3 x1 x7).length : Int) then (if ((rd_T29 (rd_L3 x1 x7) 0).f0) < x5 then (ebbtideref14_Stable.l0 k x0 x1 ((rd_T29 (rd_L3 x1 x7) 0).f0) true (wrap64 (x7 + 1))) else (ebbtideref14_Stable.l0 k x0 x1 x5 x6 (wrap64 (x7 + 1)))) else (none)) else (if 0 < ((rd_L3 x1 x7).length : Int) then (ebbtideref14_Stable.l0 k x0 x1 ((rd_T29 (rd_L3 x1 x7) 0).f0) true (wrap64 (x7 + 1))) else (none))) else (ebbtideref14_Stable.l0 k x0 x1 x5 x6 (wrap64 (x7 + 1)))) else (none)) else (if x6 = true then (some (wrap64 (x5 - 1))) else (some x0))
def ebbtideref14_Stable.f (k : Nat) (a0 : Int) (l1 : List (List (S29))) : Option (Int) := ebbtideref14_Stable.l0 k a0 l1 0 false 0
theorem ebbtideref14_Stable.mono_l : ∀ k, (∀ y0 y1 y2 y3 y4, LeO (ebbtideref14_Stable.l0 k y0 y1 y2 y3 y4) (ebbtideref14_Stable.l0 (k + 1) y0 y1 y2 y3 y4))
  | 0 => fun _ _ _ _ _ r h => by simp [ebbtideref14_Stable.l0] at h
  | k + 1 => by
    have ih0 := ebbtideref14_Stable.mono_l k
    · intro y0 y1 y2 y3 y4
      unfold ebbtideref14_Stable.l0
      repeat' first
      | (with_reducible exact ih0 _ _ _ _ _)
      | (with_reducible exact LeO.refl _)
      | (with_reducible exact LeO.none _)
      | (with_reducible refine LeO.ite ?_ ?_)
      | (with_reducible refine LeO.bind ?_ (fun _ => ?_))
      | exact ih0 _ _ _ _ _
      | exact LeO.none _
      | refine LeO.ite ?_ ?_
      | refine LeO.bind ?_ (fun _ => ?_)
theorem ebbtideref14_Stable.mono : ∀ a0 a1 k, LeO (ebbtideref14_Stable.f k a0 a1) (ebbtideref14_Stable.f (k + 1) a0 a1) := by
  intro a0 a1 k
  have ih0 := ebbtideref14_Stable.mono_l k
  unfold ebbtideref14_Stable.f
  repeat' first
      | (with_reducible exact ih0 _ _ _ _ _)
      | (with_reducible exact LeO.refl _)
      | (with_reducible exact LeO.none _)
      | (with_reducible refine LeO.ite ?_ ?_)
      | (with_reducible refine LeO.bind ?_ (fun _ => ?_))
      | exact ih0 _ _ _ _ _
      | exact LeO.none _
      | refine LeO.ite ?_ ?_
      | refine LeO.bind ?_ (fun _ => ?_)
set_option maxHeartbeats 8000000 in
set_option maxRecDepth 100000 in
theorem ebbtideref14_Stable.calls (k : Nat) (a0 : Int) (A1 : Option Addr) (c1 : Nat) (l1 : List (List (S29))) (r : Int) (w : World) (hr1 : Kd.C (Kd.slice 29 k29) w A1 l1.length l1) (hc1 : l1.length ≤ c1) (h : ebbtideref14_Stable.f k a0 l1 = some r) :
    Calls Try.prog 23 #[.int .i64 a0, .slice A1 l1.length c1] w fun e w' => e = .returned (.int .i64 r) ∧ Drawn0 w w' := by
  have HR1 := Aside0.mk hr1
  have HC1 := Aside0.mk hc1
  clear hr1 hc1
  have H : (ebbtideref14_Stable.l0 k a0 l1 0 false 0) = some r := h
  clear h
  have H' := Aside0.mk H
  clear H
  go_enter Try.func23, Try.ntmps23
  go_wp2
  go_loopg [5, 6, 7] k (fun kq v5 v6 v7 w' => ∃ (x5_1 : Int) (x6_1 : Bool) (x7_1 : Int), v5 = .int .i64 x5_1 ∧ v6 = .bool x6_1 ∧ v7 = .int .i64 x7_1 ∧ Aside0 (ebbtideref14_Stable.l0 kq a0 l1 x5_1 x6_1 x7_1 = some r) ∧ Aside0 (kq ≤ k) ∧ Drawn0 w w')
  case atStart => exact ⟨(0), (false), (0), (by first | rfl | (simp; done) | (simp [*]; done)), (by first | rfl | (simp; done) | (simp [*]; done)), (by first | rfl | (simp; done) | (simp [*]; done)), H', ⟨Nat.le_refl _⟩, by repeat (first | exact Drawn0.refl _ | apply Drawn0.step)⟩
  case round =>
    clear H'
    try clear c1
    try clear c2
    try clear p2
    obtain ⟨x5_1, x6_1, x7_1, rfl, rfl, rfl, HA, HK1, ⟨m1, rfl⟩⟩ := hrel
    cases gk with
    | zero => exact absurd HA.out (by simp [ebbtideref14_Stable.l0])
    | succ k1 =>
      have H := HA.out
      clear HA
      simp only [ebbtideref14_Stable.l0] at H
      by_cases c3 : x7_1 < (l1.length : Int)
      · rw [if_pos c3] at H
        have c3b0 : decide (x7_1 < (l1.length : Int)) = true := decide_eq_true c3
        clear c3
        by_cases c4 : 0 ≤ x7_1
        · rw [if_pos c4] at H
          have c4b0 : decide (0 ≤ x7_1) = true := decide_eq_true c4
          clear c4
          by_cases c5 : ((rd_L3 l1 x7_1).length : Int) > 0
          · rw [if_pos c5] at H
            have c5b0 : decide (0 < ((rd_L3 l1 x7_1).length : Int)) = true := decide_eq_true c5
            have c5b1 : decide (0 < (rd_L3 l1 x7_1).length) = true := decide_eq_true (by omega)
            clear c5
            by_cases c6 : x6_1 = true
            · subst c6
              have H1 : (if 0 < ((rd_L3 l1 x7_1).length : Int) then (if ((rd_T29 (rd_L3 l1 x7_1) 0).f0) < x5_1 then (ebbtideref14_Stable.l0 k1 a0 l1 ((rd_T29 (rd_L3 l1 x7_1) 0).f0) true (wrap64 (x7_1 + 1))) else (ebbtideref14_Stable.l0 k1 a0 l1 x5_1 true (wrap64 (x7_1 + 1)))) else (none)) = some r := by rw [if_pos rfl] at H; exact H
              clear H
              have H := H1
              clear H1
              by_cases c7 : 0 < ((rd_L3 l1 x7_1).length : Int)
              · rw [if_pos c7] at H
                have c7b0 : decide (0 < ((rd_L3 l1 x7_1).length : Int)) = true := decide_eq_true c7
                have c7b1 : decide (0 < (rd_L3 l1 x7_1).length) = true := decide_eq_true (by omega)
                clear c7
                by_cases c8 : ((rd_T29 (rd_L3 l1 x7_1) 0).f0) < x5_1
                · rw [if_pos c8] at H
                  have c8b0 : decide (((rd_T29 (rd_L3 l1 x7_1) 0).f0) < x5_1) = true := decide_eq_true c8
                  clear c8
                  have H' := Aside0.mk H
                  clear H
                  have p276 : 0 ≤ (x7_1 : Int) := of_decide_eq_true (by first | (with_reducible assumption) | assumption)
                  have q276 : x7_1 < (l1.length : Int) := of_decide_eq_true (by first | (with_reducible assumption) | assumption)
                  obtain ⟨ad276, A276_0, c276_0, e276, hx276_0, hl276_0, hi276_0⟩ := at_L3 HR1.out x7_1 p276 q276
                  cases e276
                  have HR276_0 := Aside0.mk hi276_0
                  have HC276_0 := Aside0.mk hl276_0
                  clear hi276_0 hl276_0
                  replace p276 := eq_true p276
                  replace q276 := eq_true q276
                  have p277 : 0 ≤ (x7_1 : Int) := of_decide_eq_true (by first | (with_reducible assumption) | assumption)
                  have q277 : x7_1 < (l1.length : Int) := of_decide_eq_true (by first | (with_reducible assumption) | assumption)
                  obtain ⟨ad277, A277_0, c277_0, e277, hx277_0, hl277_0, hi277_0⟩ := at_L3 HR1.out x7_1 p277 q277
                  obtain rfl : ad276 = ad277 := (by injection e277)
                  have HR277_0 := Aside0.mk hi277_0
                  have HC277_0 := Aside0.mk hl277_0
                  clear hi277_0 hl277_0
                  replace p277 := eq_true p277
                  replace q277 := eq_true q277
                  have ea_ := Option.some.inj (hx276_0.symm.trans hx277_0)
                  injection ea_ with ea_ en_ ec_
                  subst ea_
                  subst ec_
                  clear en_
                  have p278 : 0 ≤ (0 : Int) := (by omega)
                  have q278 : 0 < ((rd_L3 l1 x7_1).length : Int) := of_decide_eq_true (by first | (with_reducible assumption) | assumption)
                  obtain ⟨ad278, e278, hx278_0, hx278_1, hx278_2, hx278_3⟩ := at_T29 HR277_0.out 0 p278 q278
                  cases e278
                  have qi278 : (0 < (rd_L3 l1 x7_1).length) = True := eq_true (by omega)
                  (try rw [show ((0 : Int)).toNat = 0 from rfl] at hx278_0)
                  (try rw [show 0 * 4 = 0 from rfl] at hx278_0)
                  (try rw [Addr.add_zero'] at hx278_0)
                  (try rw [show ((0 : Int)).toNat = 0 from rfl] at hx278_1)
                  (try rw [show 0 * 4 = 0 from rfl] at hx278_1)
                  (try rw [Addr.add_zero'] at hx278_1)
                  (try rw [show ((0 : Int)).toNat = 0 from rfl] at hx278_2)
                  (try rw [show 0 * 4 = 0 from rfl] at hx278_2)
                  (try rw [Addr.add_zero'] at hx278_2)
                  (try rw [show ((0 : Int)).toNat = 0 from rfl] at hx278_3)
                  (try rw [show 0 * 4 = 0 from rfl] at hx278_3)
                  (try rw [Addr.add_zero'] at hx278_3)
                  replace p278 := eq_true p278
                  replace q278 := eq_true q278
                  have p279 : 0 ≤ (x7_1 : Int) := of_decide_eq_true (by first | (with_reducible assumption) | assumption)
                  have q279 : x7_1 < (l1.length : Int) := of_decide_eq_true (by first | (with_reducible assumption) | assumption)
                  obtain ⟨ad279, A279_0, c279_0, e279, hx279_0, hl279_0, hi279_0⟩ := at_L3 HR1.out x7_1 p279 q279
                  obtain rfl : ad276 = ad279 := (by injection e279)
                  have HR279_0 := Aside0.mk hi279_0
                  have HC279_0 := Aside0.mk hl279_0
                  clear hi279_0 hl279_0
                  replace p279 := eq_true p279
                  replace q279 := eq_true q279
                  have ea_ := Option.some.inj (hx276_0.symm.trans hx279_0)
                  injection ea_ with ea_ en_ ec_
                  subst ea_
                  subst ec_
                  clear en_
                  have p280 : 0 ≤ (0 : Int) := (by omega)
                  have q280 : 0 < ((rd_L3 l1 x7_1).length : Int) := of_decide_eq_true (by first | (with_reducible assumption) | assumption)
                  obtain ⟨ad280, e280, hx280_0, hx280_1, hx280_2, hx280_3⟩ := at_T29 HR279_0.out 0 p280 q280
                  cases e280
                  have qi280 : (0 < (rd_L3 l1 x7_1).length) = True := eq_true (by omega)
                  (try rw [show ((0 : Int)).toNat = 0 from rfl] at hx280_0)
                  (try rw [show 0 * 4 = 0 from rfl] at hx280_0)
                  (try rw [Addr.add_zero'] at hx280_0)
                  (try rw [show ((0 : Int)).toNat = 0 from rfl] at hx280_1)
                  (try rw [show 0 * 4 = 0 from rfl] at hx280_1)
                  (try rw [Addr.add_zero'] at hx280_1)
                  (try rw [show ((0 : Int)).toNat = 0 from rfl] at hx280_2)
                  (try rw [show 0 * 4 = 0 from rfl] at hx280_2)
                  (try rw [Addr.add_zero'] at hx280_2)
                  (try rw [show ((0 : Int)).toNat = 0 from rfl] at hx280_3)
                  (try rw [show 0 * 4 = 0 from rfl] at hx280_3)
                  (try rw [Addr.add_zero'] at hx280_3)
                  replace p280 := eq_true p280
                  replace q280 := eq_true q280
                  go_wp2
                  go_roundg k1
                  case measure => have := HK1.out; omega
                  case rel => exact ⟨((rd_T29 (rd_L3 l1 x7_1) 0).f0), (true), (wrap64 (x7_1 + 1)), (by first | rfl | (simp; done) | (simp [*]; done)), (by first | rfl | (simp; done) | (simp [*]; done)), (by first | rfl | (simp; done) | (simp [*]; done)), H', ⟨by have := HK1.out; omega⟩, by repeat (first | exact Drawn0.refl _ | apply Drawn0.step)⟩
                · rw [if_neg c8] at H
                  have c8b0 : decide (((rd_T29 (rd_L3 l1 x7_1) 0).f0) < x5_1) = false := decide_eq_false c8
                  clear c8
                  have H' := Aside0.mk H
                  clear H
                  have p276 : 0 ≤ (x7_1 : Int) := of_decide_eq_true (by first | (with_reducible assumption) | assumption)
                  have q276 : x7_1 < (l1.length : Int) := of_decide_eq_true (by first | (with_reducible assumption) | assumption)
                  obtain ⟨ad276, A276_0, c276_0, e276, hx276_0, hl276_0, hi276_0⟩ := at_L3 HR1.out x7_1 p276 q276
                  cases e276
                  have HR276_0 := Aside0.mk hi276_0
                  have HC276_0 := Aside0.mk hl276_0
                  clear hi276_0 hl276_0
                  replace p276 := eq_true p276
                  replace q276 := eq_true q276
                  have p277 : 0 ≤ (x7_1 : Int) := of_decide_eq_true (by first | (with_reducible assumption) | assumption)
                  have q277 : x7_1 < (l1.length : Int) := of_decide_eq_true (by first | (with_reducible assumption) | assumption)
                  obtain ⟨ad277, A277_0, c277_0, e277, hx277_0, hl277_0, hi277_0⟩ := at_L3 HR1.out x7_1 p277 q277
                  obtain rfl : ad276 = ad277 := (by injection e277)
                  have HR277_0 := Aside0.mk hi277_0
                  have HC277_0 := Aside0.mk hl277_0
                  clear hi277_0 hl277_0
                  replace p277 := eq_true p277
                  replace q277 := eq_true q277
                  have ea_ := Option.some.inj (hx276_0.symm.trans hx277_0)
                  injection ea_ with ea_ en_ ec_
                  subst ea_
                  subst ec_
                  clear en_
                  have p278 : 0 ≤ (0 : Int) := (by omega)
                  have q278 : 0 < ((rd_L3 l1 x7_1).length : Int) := of_decide_eq_true (by first | (with_reducible assumption) | assumption)
                  obtain ⟨ad278, e278, hx278_0, hx278_1, hx278_2, hx278_3⟩ := at_T29 HR277_0.out 0 p278 q278
                  cases e278
                  have qi278 : (0 < (rd_L3 l1 x7_1).length) = True := eq_true (by omega)
                  (try rw [show ((0 : Int)).toNat = 0 from rfl] at hx278_0)
                  (try rw [show 0 * 4 = 0 from rfl] at hx278_0)
                  (try rw [Addr.add_zero'] at hx278_0)
                  (try rw [show ((0 : Int)).toNat = 0 from rfl] at hx278_1)
                  (try rw [show 0 * 4 = 0 from rfl] at hx278_1)
                  (try rw [Addr.add_zero'] at hx278_1)
                  (try rw [show ((0 : Int)).toNat = 0 from rfl] at hx278_2)
                  (try rw [show 0 * 4 = 0 from rfl] at hx278_2)
                  (try rw [Addr.add_zero'] at hx278_2)
                  (try rw [show ((0 : Int)).toNat = 0 from rfl] at hx278_3)
                  (try rw [show 0 * 4 = 0 from rfl] at hx278_3)
                  (try rw [Addr.add_zero'] at hx278_3)
                  replace p278 := eq_true p278
                  replace q278 := eq_true q278
                  go_wp2
                  go_roundg k1
                  case measure => have := HK1.out; omega
                  case rel => exact ⟨(x5_1), (true), (wrap64 (x7_1 + 1)), (by first | rfl | (simp; done) | (simp [*]; done)), (by first | rfl | (simp; done) | (simp [*]; done)), (by first | rfl | (simp; done) | (simp [*]; done)), H', ⟨by have := HK1.out; omega⟩, by repeat (first | exact Drawn0.refl _ | apply Drawn0.step)⟩
              · rw [if_neg c7] at H
                exact absurd H (by simp)
            · replace c6 := Bool.eq_false_iff.mpr c6
              subst c6
              have H1 : (if 0 < ((rd_L3 l1 x7_1).length : Int) then (ebbtideref14_Stable.l0 k1 a0 l1 ((rd_T29 (rd_L3 l1 x7_1) 0).f0) true (wrap64 (x7_1 + 1))) else (none)) = some r := by rw [if_neg (show ¬ (false = true) by decide)] at H; exact H
              clear H
              have H := H1
              clear H1
              by_cases c9 : 0 < ((rd_L3 l1 x7_1).length : Int)
              · rw [if_pos c9] at H
                have c9b0 : decide (0 < ((rd_L3 l1 x7_1).length : Int)) = true := decide_eq_true c9
                have c9b1 : decide (0 < (rd_L3 l1 x7_1).length) = true := decide_eq_true (by omega)
                clear c9
                have H' := Aside0.mk H
                clear H
                have p276 : 0 ≤ (x7_1 : Int) := of_decide_eq_true (by first | (with_reducible assumption) | assumption)
                have q276 : x7_1 < (l1.length : Int) := of_decide_eq_true (by first | (with_reducible assumption) | assumption)
                obtain ⟨ad276, A276_0, c276_0, e276, hx276_0, hl276_0, hi276_0⟩ := at_L3 HR1.out x7_1 p276 q276
                cases e276
                have HR276_0 := Aside0.mk hi276_0
                have HC276_0 := Aside0.mk hl276_0
                clear hi276_0 hl276_0
                replace p276 := eq_true p276
                replace q276 := eq_true q276
                have p281 : 0 ≤ (x7_1 : Int) := of_decide_eq_true (by first | (with_reducible assumption) | assumption)
                have q281 : x7_1 < (l1.length : Int) := of_decide_eq_true (by first | (with_reducible assumption) | assumption)
                obtain ⟨ad281, A281_0, c281_0, e281, hx281_0, hl281_0, hi281_0⟩ := at_L3 HR1.out x7_1 p281 q281
                obtain rfl : ad276 = ad281 := (by injection e281)
                have HR281_0 := Aside0.mk hi281_0
                have HC281_0 := Aside0.mk hl281_0
                clear hi281_0 hl281_0
                replace p281 := eq_true p281
                replace q281 := eq_true q281
                have ea_ := Option.some.inj (hx276_0.symm.trans hx281_0)
                injection ea_ with ea_ en_ ec_
                subst ea_
                subst ec_
                clear en_
                have p282 : 0 ≤ (0 : Int) := (by omega)
                have q282 : 0 < ((rd_L3 l1 x7_1).length : Int) := of_decide_eq_true (by first | (with_reducible assumption) | assumption)
                obtain ⟨ad282, e282, hx282_0, hx282_1, hx282_2, hx282_3⟩ := at_T29 HR281_0.out 0 p282 q282
                cases e282
                have qi282 : (0 < (rd_L3 l1 x7_1).length) = True := eq_true (by omega)
                (try rw [show ((0 : Int)).toNat = 0 from rfl] at hx282_0)
                (try rw [show 0 * 4 = 0 from rfl] at hx282_0)
                (try rw [Addr.add_zero'] at hx282_0)
                (try rw [show ((0 : Int)).toNat = 0 from rfl] at hx282_1)
                (try rw [show 0 * 4 = 0 from rfl] at hx282_1)
                (try rw [Addr.add_zero'] at hx282_1)
                (try rw [show ((0 : Int)).toNat = 0 from rfl] at hx282_2)
                (try rw [show 0 * 4 = 0 from rfl] at hx282_2)
                (try rw [Addr.add_zero'] at hx282_2)
                (try rw [show ((0 : Int)).toNat = 0 from rfl] at hx282_3)
                (try rw [show 0 * 4 = 0 from rfl] at hx282_3)
                (try rw [Addr.add_zero'] at hx282_3)
                replace p282 := eq_true p282
                replace q282 := eq_true q282
                go_wp2
                go_roundg k1
                case measure => have := HK1.out; omega
                case rel => exact ⟨((rd_T29 (rd_L3 l1 x7_1) 0).f0), (true), (wrap64 (x7_1 + 1)), (by first | rfl | (simp; done) | (simp [*]; done)), (by first | rfl | (simp; done) | (simp [*]; done)), (by first | rfl | (simp; done) | (simp [*]; done)), H', ⟨by have := HK1.out; omega⟩, by repeat (first | exact Drawn0.refl _ | apply Drawn0.step)⟩
              · rw [if_neg c9] at H
                exact absurd H (by simp)
          · rw [if_neg c5] at H
            have c5b0 : decide (0 < ((rd_L3 l1 x7_1).length : Int)) = false := decide_eq_false c5
            have c5b1 : decide (0 < (rd_L3 l1 x7_1).length) = false := decide_eq_false (by omega)
            clear c5
            have H' := Aside0.mk H
            clear H
            have p276 : 0 ≤ (x7_1 : Int) := of_decide_eq_true (by first | (with_reducible assumption) | assumption)
            have q276 : x7_1 < (l1.length : Int) := of_decide_eq_true (by first | (with_reducible assumption) | assumption)
            obtain ⟨ad276, A276_0, c276_0, e276, hx276_0, hl276_0, hi276_0⟩ := at_L3 HR1.out x7_1 p276 q276
            cases e276
            have HR276_0 := Aside0.mk hi276_0
            have HC276_0 := Aside0.mk hl276_0
            clear hi276_0 hl276_0
            replace p276 := eq_true p276
            replace q276 := eq_true q276
            go_wp2
            go_roundg k1
            case measure => have := HK1.out; omega
            case rel => exact ⟨(x5_1), (x6_1), (wrap64 (x7_1 + 1)), (by first | rfl | (simp; done) | (simp [*]; done)), (by first | rfl | (simp; done) | (simp [*]; done)), (by first | rfl | (simp; done) | (simp [*]; done)), H', ⟨by have := HK1.out; omega⟩, by repeat (first | exact Drawn0.refl _ | apply Drawn0.step)⟩
        · rw [if_neg c4] at H
          exact absurd H (by simp)
      · rw [if_neg c3] at H
        have c3b0 : decide (x7_1 < (l1.length : Int)) = false := decide_eq_false c3
        clear c3
        by_cases c10 : x6_1 = true
        · subst c10
          have H1 : (some (wrap64 (x5_1 - 1))) = some r := by rw [if_pos rfl] at H; exact H
          clear H
          have H := H1
          clear H1
          obtain rfl := Option.some.inj H
          go_wp2
          go_ret
          exact ⟨by first | rfl | (simp; done) | (simp [*]; done), by repeat (first | exact Drawn0.refl _ | apply Drawn0.step)⟩
        · replace c10 := Bool.eq_false_iff.mpr c10
          subst c10
          have H1 : (some a0) = some r := by rw [if_neg (show ¬ (false = true) by decide)] at H; exact H
          clear H
          have H := H1
          clear H1
          obtain rfl := Option.some.inj H
          go_wp2
          go_ret
          exact ⟨by first | rfl | (simp; done) | (simp [*]; done), by repeat (first | exact Drawn0.refl _ | apply Drawn0.step)⟩

/-! ### ebbtidelaw14_SeqStable: function 4 -/
def ebbtidelaw14_SeqStable.j0 : Nat → Int → List (List (S29)) → Bool → Option (Bool)
  | 0, _, _, _ => none
  | k + 1, x0, x1, x24 => if x24 = true then (none) else ((ebbtideref14_Begins.f k x1).bind fun t289 => (if t289 = true then ((seq_Stable.f k x0 x1).bind fun t290 => ((ebbtideref14_Stable.f k x0 x1).bind fun t291 => (some (t290 == t291)))) else (some true)))
def ebbtidelaw14_SeqStable.f (k : Nat) (a0 : Int) (l1 : List (List (S29))) (a2 : Int) : Option (Bool) := (ebbtidelaw14_alive.f k).bind fun t283 => (if t283 = true then ((ebbtideref14_Great.f k l1).bind fun t284 => (if t284 = true then (some true) else ((seq_Waits.f k a2 l1).bind fun t285 => ((ebbtideref14_Waits.f k a2 l1).bind fun t286 => (if (t285 != t286) = true then (ebbtidelaw14_SeqStable.j0 k a0 l1 true) else ((seq_Pending.f k l1).bind fun t287 => ((ebbtideref14_Pending.f k l1).bind fun t288 => (ebbtidelaw14_SeqStable.j0 k a0 l1 (t287 != t288))))))))) else (none))
theorem ebbtidelaw14_SeqStable.mono_l : ∀ k, (∀ y0 y1 y2, LeO (ebbtidelaw14_SeqStable.j0 k y0 y1 y2) (ebbtidelaw14_SeqStable.j0 (k + 1) y0 y1 y2))
  | 0 => fun _ _ _ r h => by simp [ebbtidelaw14_SeqStable.j0] at h
  | k + 1 => by
    have ih0 := ebbtidelaw14_SeqStable.mono_l k
    · intro y0 y1 y2
      unfold ebbtidelaw14_SeqStable.j0
      repeat' first
      | (with_reducible exact ih0 _ _ _)
      | (with_reducible exact ebbtidelaw14_alive.mono _)
      | (with_reducible exact ebbtideref14_Begins.mono _ _)
      | (with_reducible exact ebbtideref14_Great.mono _ _)
      | (with_reducible exact ebbtideref14_Pending.mono _ _)
      | (with_reducible exact ebbtideref14_Stable.mono _ _ _)
      | (with_reducible exact ebbtideref14_Waits.mono _ _ _)
      | (with_reducible exact seq_Pending.mono _ _)
      | (with_reducible exact seq_Stable.mono _ _ _)
      | (with_reducible exact seq_Waits.mono _ _ _)
      | (with_reducible exact LeO.refl _)
      | (with_reducible exact LeO.none _)
      | (with_reducible refine LeO.ite ?_ ?_)
      | (with_reducible refine LeO.bind ?_ (fun _ => ?_))
      | exact ih0 _ _ _
      | exact ebbtidelaw14_alive.mono _
      | exact ebbtideref14_Begins.mono _ _
      | exact ebbtideref14_Great.mono _ _
      | exact ebbtideref14_Pending.mono _ _
      | exact ebbtideref14_Stable.mono _ _ _
      | exact ebbtideref14_Waits.mono _ _ _
      | exact seq_Pending.mono _ _
      | exact seq_Stable.mono _ _ _
      | exact seq_Waits.mono _ _ _
      | exact LeO.none _
      | refine LeO.ite ?_ ?_
      | refine LeO.bind ?_ (fun _ => ?_)
theorem ebbtidelaw14_SeqStable.mono : ∀ a0 a1 a2 k, LeO (ebbtidelaw14_SeqStable.f k a0 a1 a2) (ebbtidelaw14_SeqStable.f (k + 1) a0 a1 a2) := by
  intro a0 a1 a2 k
  have ih0 := ebbtidelaw14_SeqStable.mono_l k
  unfold ebbtidelaw14_SeqStable.f
  repeat' first
      | (with_reducible exact ih0 _ _ _)
      | (with_reducible exact ebbtidelaw14_alive.mono _)
      | (with_reducible exact ebbtideref14_Begins.mono _ _)
      | (with_reducible exact ebbtideref14_Great.mono _ _)
      | (with_reducible exact ebbtideref14_Pending.mono _ _)
      | (with_reducible exact ebbtideref14_Stable.mono _ _ _)
      | (with_reducible exact ebbtideref14_Waits.mono _ _ _)
      | (with_reducible exact seq_Pending.mono _ _)
      | (with_reducible exact seq_Stable.mono _ _ _)
      | (with_reducible exact seq_Waits.mono _ _ _)
      | (with_reducible exact LeO.refl _)
      | (with_reducible exact LeO.none _)
      | (with_reducible refine LeO.ite ?_ ?_)
      | (with_reducible refine LeO.bind ?_ (fun _ => ?_))
      | exact ih0 _ _ _
      | exact ebbtidelaw14_alive.mono _
      | exact ebbtideref14_Begins.mono _ _
      | exact ebbtideref14_Great.mono _ _
      | exact ebbtideref14_Pending.mono _ _
      | exact ebbtideref14_Stable.mono _ _ _
      | exact ebbtideref14_Waits.mono _ _ _
      | exact seq_Pending.mono _ _
      | exact seq_Stable.mono _ _ _
      | exact seq_Waits.mono _ _ _
      | exact LeO.none _
      | refine LeO.ite ?_ ?_
      | refine LeO.bind ?_ (fun _ => ?_)
set_option maxHeartbeats 8000000 in
set_option maxRecDepth 100000 in
theorem ebbtidelaw14_SeqStable.calls (k : Nat) (a0 : Int) (A1 : Option Addr) (c1 : Nat) (l1 : List (List (S29))) (a2 : Int) (r : Bool) (w : World) (hr1 : Kd.C (Kd.slice 29 k29) w A1 l1.length l1) (hc1 : l1.length ≤ c1) (h : ebbtidelaw14_SeqStable.f k a0 l1 a2 = some r) :
    Calls Try.prog 4 #[.int .i64 a0, .slice A1 l1.length c1, .int .i64 a2] w fun e w' => e = .returned (.bool r) ∧ Below w.heap.size w w' := by
  have HR1 := Aside0.mk hr1
  have HC1 := Aside0.mk hc1
  clear hr1 hc1
  have HB := Aside0.mk (Below.refl w.heap.size w)
  have H : ((ebbtidelaw14_alive.f k).bind fun t283 => (if t283 = true then ((ebbtideref14_Great.f k l1).bind fun t284 => (if t284 = true then (some true) else ((seq_Waits.f k a2 l1).bind fun t285 => ((ebbtideref14_Waits.f k a2 l1).bind fun t286 => (if (t285 != t286) = true then (ebbtidelaw14_SeqStable.j0 k a0 l1 true) else ((seq_Pending.f k l1).bind fun t287 => ((ebbtideref14_Pending.f k l1).bind fun t288 => (ebbtidelaw14_SeqStable.j0 k a0 l1 (t287 != t288))))))))) else (none))) = some r := h
  clear h
  replace H := Option.bind_eq_some_iff.mp H
  obtain ⟨t283, A40, H⟩ := H
  replace H : (if t283 = true then ((ebbtideref14_Great.f k l1).bind fun t284 => (if t284 = true then (some true) else ((seq_Waits.f k a2 l1).bind fun t285 => ((ebbtideref14_Waits.f k a2 l1).bind fun t286 => (if (t285 != t286) = true then (ebbtidelaw14_SeqStable.j0 k a0 l1 true) else ((seq_Pending.f k l1).bind fun t287 => ((ebbtideref14_Pending.f k l1).bind fun t288 => (ebbtidelaw14_SeqStable.j0 k a0 l1 (t287 != t288))))))))) else (none)) = some r := H
  have A4 := Aside0.mk A40
  clear A40
  by_cases c5 : t283 = true
  · subst c5
    have H1 : ((ebbtideref14_Great.f k l1).bind fun t284 => (if t284 = true then (some true) else ((seq_Waits.f k a2 l1).bind fun t285 => ((ebbtideref14_Waits.f k a2 l1).bind fun t286 => (if (t285 != t286) = true then (ebbtidelaw14_SeqStable.j0 k a0 l1 true) else ((seq_Pending.f k l1).bind fun t287 => ((ebbtideref14_Pending.f k l1).bind fun t288 => (ebbtidelaw14_SeqStable.j0 k a0 l1 (t287 != t288))))))))) = some r := by rw [if_pos rfl] at H; exact H
    clear H
    have H := H1
    clear H1
    replace H := Option.bind_eq_some_iff.mp H
    obtain ⟨t284, A60, H⟩ := H
    replace H : (if t284 = true then (some true) else ((seq_Waits.f k a2 l1).bind fun t285 => ((ebbtideref14_Waits.f k a2 l1).bind fun t286 => (if (t285 != t286) = true then (ebbtidelaw14_SeqStable.j0 k a0 l1 true) else ((seq_Pending.f k l1).bind fun t287 => ((ebbtideref14_Pending.f k l1).bind fun t288 => (ebbtidelaw14_SeqStable.j0 k a0 l1 (t287 != t288)))))))) = some r := H
    have A6 := Aside0.mk A60
    clear A60
    by_cases c7 : t284 = true
    · subst c7
      have H1 : (some true) = some r := by rw [if_pos rfl] at H; exact H
      clear H
      have H := H1
      clear H1
      obtain rfl := Option.some.inj H
      go_enter Try.func4, Try.ntmps4
      go_wp2_with (first | ((with_reducible refine gate_callee (f := 7) rfl ?_); refine goesL_ (some 7) rfl rfl Try.func7 (by kernel_rfl) rfl #[] rfl (by (try simp only [List.map_toArray, List.map_cons, List.map_nil]); first | done | rfl | (simp only [List.length_drop, List.length_take]; rfl)) ?_; (with_reducible refine (ebbtidelaw14_alive.calls k  true _ A4.out).mono ?_); rintro e w8 ⟨rfl, hb⟩; refine ⟨_, rfl, ?_⟩; have n0_ := Aside0.mk (below_step (by repeat (first | (with_reducible first | exact HB.out | apply below_alloc | apply pw_below_drewN | apply below_drew1) | exact HB.out)) hb); clear HB; have HB := n0_; clear n0_; (try clear hb); (try clear hb2); (try clear hk); (try clear hi)) | ((with_reducible refine gate_callee (f := 16) rfl ?_); refine goesL_ (some 10) rfl rfl Try.func16 (by kernel_rfl) rfl #[.slice A1 l1.length c1] rfl (by (try simp only [List.map_toArray, List.map_cons, List.map_nil]); first | done | rfl | (simp only [List.length_drop, List.length_take]; rfl)) ?_; (with_reducible refine (ebbtideref14_Great.calls k _ _ l1 true _ ?side1 ?side2 A6.out).mono ?_); (case side1 => repeat (first | exact (Kd.C_below HR1.out HB.out) | (with_reducible refine Kd.C_alloc ?_ _) | (with_reducible refine Kd.C_drewN ?_ _) | (with_reducible refine Kd.C_drew ?_))); (case side2 => exact HC1.out); rintro e w' ⟨rfl, ⟨nd, rfl⟩⟩; refine ⟨_, rfl, ?_⟩))
      go_ret
      exact ⟨by first | rfl | (simp [errW_none, errW_some] <;> rfl) | (simp [*, errW_none, errW_some] <;> rfl), by repeat (first | (with_reducible first | exact HB.out | apply below_alloc | apply pw_below_drewN | apply below_drew1) | exact HB.out)⟩
    · replace c7 := Bool.eq_false_iff.mpr c7
      subst c7
      have H1 : ((seq_Waits.f k a2 l1).bind fun t285 => ((ebbtideref14_Waits.f k a2 l1).bind fun t286 => (if (t285 != t286) = true then (ebbtidelaw14_SeqStable.j0 k a0 l1 true) else ((seq_Pending.f k l1).bind fun t287 => ((ebbtideref14_Pending.f k l1).bind fun t288 => (ebbtidelaw14_SeqStable.j0 k a0 l1 (t287 != t288))))))) = some r := by rw [if_neg (show ¬ (false = true) by decide)] at H; exact H
      clear H
      have H := H1
      clear H1
      have HC9 := Aside0.mk H
      clear H
      go_enter Try.func4, Try.ntmps4
      go_upto_region 5 with (first | ((with_reducible refine gate_callee (f := 7) rfl ?_); refine goesL_ (some 7) rfl rfl Try.func7 (by kernel_rfl) rfl #[] rfl (by (try simp only [List.map_toArray, List.map_cons, List.map_nil]); first | done | rfl | (simp only [List.length_drop, List.length_take]; rfl)) ?_; (with_reducible refine (ebbtidelaw14_alive.calls k  true _ A4.out).mono ?_); rintro e w10 ⟨rfl, hb⟩; refine ⟨_, rfl, ?_⟩; have n0_ := Aside0.mk (below_step (by repeat (first | (with_reducible first | exact HB.out | apply below_alloc | apply pw_below_drewN | apply below_drew1) | exact HB.out)) hb); clear HB; have HB := n0_; clear n0_; (try clear hb); (try clear hb2); (try clear hk); (try clear hi)) | ((with_reducible refine gate_callee (f := 16) rfl ?_); refine goesL_ (some 10) rfl rfl Try.func16 (by kernel_rfl) rfl #[.slice A1 l1.length c1] rfl (by (try simp only [List.map_toArray, List.map_cons, List.map_nil]); first | done | rfl | (simp only [List.length_drop, List.length_take]; rfl)) ?_; (with_reducible refine (ebbtideref14_Great.calls k _ _ l1 false _ ?side1 ?side2 A6.out).mono ?_); (case side1 => repeat (first | exact (Kd.C_below HR1.out HB.out) | (with_reducible refine Kd.C_alloc ?_ _) | (with_reducible refine Kd.C_drewN ?_ _) | (with_reducible refine Kd.C_drew ?_))); (case side2 => exact HC1.out); rintro e w' ⟨rfl, ⟨nd, rfl⟩⟩; refine ⟨_, rfl, ?_⟩))
      (try simp only [Act.put, List.setIfInBounds_toArray, List.set_cons_zero, List.set_cons_succ])
      go_cut [24] (fun v24 wc => ∃ (kq : Nat) (x24_8 : Bool), v24 = .bool x24_8 ∧ Aside0 (ebbtidelaw14_SeqStable.j0 kq a0 l1 x24_8 = some r) ∧ Aside0 (kq ≤ k) ∧ Aside0 (Below w.heap.size w wc))
      case first =>
        have H := HC9.out
        clear HC9
        replace H := Option.bind_eq_some_iff.mp H
        obtain ⟨t285, A110, H⟩ := H
        replace H : ((ebbtideref14_Waits.f k a2 l1).bind fun t286 => (if (t285 != t286) = true then (ebbtidelaw14_SeqStable.j0 k a0 l1 true) else ((seq_Pending.f k l1).bind fun t287 => ((ebbtideref14_Pending.f k l1).bind fun t288 => (ebbtidelaw14_SeqStable.j0 k a0 l1 (t287 != t288)))))) = some r := H
        have A11 := Aside0.mk A110
        clear A110
        replace H := Option.bind_eq_some_iff.mp H
        obtain ⟨t286, A120, H⟩ := H
        replace H : (if (t285 != t286) = true then (ebbtidelaw14_SeqStable.j0 k a0 l1 true) else ((seq_Pending.f k l1).bind fun t287 => ((ebbtideref14_Pending.f k l1).bind fun t288 => (ebbtidelaw14_SeqStable.j0 k a0 l1 (t287 != t288))))) = some r := H
        have A12 := Aside0.mk A120
        clear A120
        by_cases c13 : (t285 != t286) = true
        · rw [if_pos c13] at H
          have c13b0 : (t285 != t286) = true := c13
          (try (have c13b1 : decide (t285 = t286) = false := by simpa using c13))
          (try (have c13b2 : (t285 == t286) = false := by simpa using c13))
          (try (have c13b3 : ¬ (t285 = t286) := by simpa using c13))
          clear c13
          (first | rw [c13b0] | (simp only [i64_w, i32_w]; rw [c13b0]) | skip)
          have H' := Aside0.mk H
          clear H
          go_wp2_with (first | ((with_reducible refine gate_callee (f := 17) rfl ?_); refine goesL_ (some 13) rfl rfl Try.func17 (by kernel_rfl) rfl #[.int .i64 a2, .slice A1 l1.length c1] rfl (by (try simp only [List.map_toArray, List.map_cons, List.map_nil]); first | done | rfl | (simp only [List.length_drop, List.length_take]; rfl)) ?_; (with_reducible refine (seq_Waits.calls k a2 _ _ l1 t285 _ ?side1 ?side2 A11.out).mono ?_); (case side1 => repeat (first | exact (Kd.C_below HR1.out HB.out) | (with_reducible refine Kd.C_alloc ?_ _) | (with_reducible refine Kd.C_drewN ?_ _) | (with_reducible refine Kd.C_drew ?_))); (case side2 => exact HC1.out); rintro e w14 ⟨rfl, hb⟩; refine ⟨_, rfl, ?_⟩; have n0_ := Aside0.mk (below_step (by repeat (first | (with_reducible first | exact HB.out | apply below_alloc | apply pw_below_drewN | apply below_drew1) | exact HB.out)) hb); clear HB; have HB := n0_; clear n0_; (try clear hb); (try clear hb2); (try clear hk); (try clear hi)) | ((with_reducible refine gate_callee (f := 18) rfl ?_); refine goesL_ (some 16) rfl rfl Try.func18 (by kernel_rfl) rfl #[.int .i64 a2, .slice A1 l1.length c1] rfl (by (try simp only [List.map_toArray, List.map_cons, List.map_nil]); first | done | rfl | (simp only [List.length_drop, List.length_take]; rfl)) ?_; (with_reducible refine (ebbtideref14_Waits.calls k a2 _ _ l1 t286 _ ?side1 ?side2 A12.out).mono ?_); (case side1 => repeat (first | exact (Kd.C_below HR1.out HB.out) | (with_reducible refine Kd.C_alloc ?_ _) | (with_reducible refine Kd.C_drewN ?_ _) | (with_reducible refine Kd.C_drew ?_))); (case side2 => exact HC1.out); rintro e w' ⟨rfl, ⟨nd, rfl⟩⟩; refine ⟨_, rfl, ?_⟩))
          go_meet
          case rel => exact ⟨_, (true), (by first | rfl | (simp; done) | (simp [*]; done)), H', ⟨by first | omega | exact Nat.le_refl _⟩, ⟨by repeat (first | (with_reducible first | exact HB.out | apply below_alloc | apply pw_below_drewN | apply below_drew1) | exact HB.out)⟩⟩
        · rw [if_neg c13] at H
          have c13b0 : (t285 != t286) = false := by simpa using c13
          (try (have c13b1 : decide (t285 = t286) = true := by simpa using c13))
          (try (have c13b2 : (t285 == t286) = true := by simpa using c13))
          clear c13
          (first | rw [c13b0] | (simp only [i64_w, i32_w]; rw [c13b0]) | skip)
          replace H := Option.bind_eq_some_iff.mp H
          obtain ⟨t287, A150, H⟩ := H
          replace H : ((ebbtideref14_Pending.f k l1).bind fun t288 => (ebbtidelaw14_SeqStable.j0 k a0 l1 (t287 != t288))) = some r := H
          have A15 := Aside0.mk A150
          clear A150
          replace H := Option.bind_eq_some_iff.mp H
          obtain ⟨t288, A160, H⟩ := H
          replace H : (ebbtidelaw14_SeqStable.j0 k a0 l1 (t287 != t288)) = some r := H
          have A16 := Aside0.mk A160
          clear A160
          have H' := Aside0.mk H
          clear H
          go_wp2_with (first | ((with_reducible refine gate_callee (f := 17) rfl ?_); refine goesL_ (some 13) rfl rfl Try.func17 (by kernel_rfl) rfl #[.int .i64 a2, .slice A1 l1.length c1] rfl (by (try simp only [List.map_toArray, List.map_cons, List.map_nil]); first | done | rfl | (simp only [List.length_drop, List.length_take]; rfl)) ?_; (with_reducible refine (seq_Waits.calls k a2 _ _ l1 t285 _ ?side1 ?side2 A11.out).mono ?_); (case side1 => repeat (first | exact (Kd.C_below HR1.out HB.out) | (with_reducible refine Kd.C_alloc ?_ _) | (with_reducible refine Kd.C_drewN ?_ _) | (with_reducible refine Kd.C_drew ?_))); (case side2 => exact HC1.out); rintro e w17 ⟨rfl, hb⟩; refine ⟨_, rfl, ?_⟩; have n0_ := Aside0.mk (below_step (by repeat (first | (with_reducible first | exact HB.out | apply below_alloc | apply pw_below_drewN | apply below_drew1) | exact HB.out)) hb); clear HB; have HB := n0_; clear n0_; (try clear hb); (try clear hb2); (try clear hk); (try clear hi)) | ((with_reducible refine gate_callee (f := 18) rfl ?_); refine goesL_ (some 16) rfl rfl Try.func18 (by kernel_rfl) rfl #[.int .i64 a2, .slice A1 l1.length c1] rfl (by (try simp only [List.map_toArray, List.map_cons, List.map_nil]); first | done | rfl | (simp only [List.length_drop, List.length_take]; rfl)) ?_; (with_reducible refine (ebbtideref14_Waits.calls k a2 _ _ l1 t286 _ ?side1 ?side2 A12.out).mono ?_); (case side1 => repeat (first | exact (Kd.C_below HR1.out HB.out) | (with_reducible refine Kd.C_alloc ?_ _) | (with_reducible refine Kd.C_drewN ?_ _) | (with_reducible refine Kd.C_drew ?_))); (case side2 => exact HC1.out); rintro e w' ⟨rfl, ⟨nd, rfl⟩⟩; refine ⟨_, rfl, ?_⟩) | (go_at_call 19; (with_reducible refine (seq_Pending.calls k _ _ l1 t287 _ ?side1 ?side2 A15.out).mono ?_); (case side1 => repeat (first | exact (Kd.C_below HR1.out (by repeat (first | (with_reducible first | exact HB.out | apply below_alloc | apply pw_below_drewN | apply below_drew1) | exact HB.out))) | (with_reducible refine Kd.C_alloc ?_ _) | (with_reducible refine Kd.C_drewN ?_ _) | (with_reducible refine Kd.C_drew ?_))); (case side2 => exact HC1.out); rintro e w18 ⟨rfl, hb⟩; have n0_ := Aside0.mk (below_step (by repeat (first | (with_reducible first | exact HB.out | apply below_alloc | apply pw_below_drewN | apply below_drew1) | exact HB.out)) hb); clear HB; have HB := n0_; clear n0_; (try clear hb); (try clear hb2); (try clear hk); (try clear hi)) | (go_at_call 20; (with_reducible refine (ebbtideref14_Pending.calls k _ _ l1 t288 _ ?side1 ?side2 A16.out).mono ?_); (case side1 => repeat (first | exact (Kd.C_below HR1.out HB.out) | (with_reducible refine Kd.C_alloc ?_ _) | (with_reducible refine Kd.C_drewN ?_ _) | (with_reducible refine Kd.C_drew ?_))); (case side2 => exact HC1.out); rintro e w' ⟨rfl, ⟨nd, rfl⟩⟩))
          go_meet
          case rel => exact ⟨_, ((t287 != t288)), (by first | rfl | (simp; done) | (simp [*]; done)), H', ⟨by first | omega | exact Nat.le_refl _⟩, ⟨by repeat (first | (with_reducible first | exact HB.out | apply below_alloc | apply pw_below_drewN | apply below_drew1) | exact HB.out)⟩⟩
      case rest =>
        clear HC9
        try clear c1
        try clear p2
        try clear c4
        try clear c5
        try clear c7
        try clear c13
        try clear c13b0
        try clear c13b1
        try clear c13b2
        try clear c16
        try clear c17
        try clear c18
        obtain ⟨kq, x24_8, rfl, HA, HJ8, HB⟩ := hcut
        cases kq with
        | zero => exact absurd HA.out (by simp [ebbtidelaw14_SeqStable.j0])
        | succ kj8 =>
          have H := HA.out
          clear HA
          simp only [ebbtidelaw14_SeqStable.j0] at H
          by_cases c19 : x24_8 = true
          · subst c19
            have H1 : (none) = some r := by rw [if_pos rfl] at H; exact H
            clear H
            have H := H1
            clear H1
            exact absurd H (by simp)
          · replace c19 := Bool.eq_false_iff.mpr c19
            subst c19
            have H1 : ((ebbtideref14_Begins.f kj8 l1).bind fun t289 => (if t289 = true then ((seq_Stable.f kj8 a0 l1).bind fun t290 => ((ebbtideref14_Stable.f kj8 a0 l1).bind fun t291 => (some (t290 == t291)))) else (some true))) = some r := by rw [if_neg (show ¬ (false = true) by decide)] at H; exact H
            clear H
            have H := H1
            clear H1
            replace H := Option.bind_eq_some_iff.mp H
            obtain ⟨t289, A200, H⟩ := H
            replace H : (if t289 = true then ((seq_Stable.f kj8 a0 l1).bind fun t290 => ((ebbtideref14_Stable.f kj8 a0 l1).bind fun t291 => (some (t290 == t291)))) else (some true)) = some r := H
            have A20 := Aside0.mk A200
            clear A200
            by_cases c21 : t289 = true
            · subst c21
              have H1 : ((seq_Stable.f kj8 a0 l1).bind fun t290 => ((ebbtideref14_Stable.f kj8 a0 l1).bind fun t291 => (some (t290 == t291)))) = some r := by rw [if_pos rfl] at H; exact H
              clear H
              have H := H1
              clear H1
              replace H := Option.bind_eq_some_iff.mp H
              obtain ⟨t290, A220, H⟩ := H
              replace H : ((ebbtideref14_Stable.f kj8 a0 l1).bind fun t291 => (some (t290 == t291))) = some r := H
              have A22 := Aside0.mk A220
              clear A220
              replace H := Option.bind_eq_some_iff.mp H
              obtain ⟨t291, A230, H⟩ := H
              replace H : (some (t290 == t291)) = some r := H
              have A23 := Aside0.mk A230
              clear A230
              obtain rfl := Option.some.inj H
              go_wp2_with (first | ((with_reducible refine gate_callee (f := 21) rfl ?_); refine goesL_ (some 26) rfl rfl Try.func21 (by kernel_rfl) rfl #[.slice A1 l1.length c1] rfl (by (try simp only [List.map_toArray, List.map_cons, List.map_nil]); first | done | rfl | (simp only [List.length_drop, List.length_take]; rfl)) ?_; (with_reducible refine (ebbtideref14_Begins.calls kj8 _ _ l1 true _ ?side1 ?side2 A20.out).mono ?_); (case side1 => repeat (first | exact (Kd.C_below HR1.out HB.out) | (with_reducible refine Kd.C_alloc ?_ _) | (with_reducible refine Kd.C_drewN ?_ _) | (with_reducible refine Kd.C_drew ?_))); (case side2 => exact HC1.out); rintro e w' ⟨rfl, ⟨nd, rfl⟩⟩; refine ⟨_, rfl, ?_⟩) | (go_at_call 22; (with_reducible refine (seq_Stable.calls kj8 a0 _ _ l1 t290 _ ?side1 ?side2 A22.out).mono ?_); (case side1 => repeat (first | exact (Kd.C_below HR1.out (by repeat (first | (with_reducible first | exact HB.out | apply below_alloc | apply pw_below_drewN | apply below_drew1) | exact HB.out))) | (with_reducible refine Kd.C_alloc ?_ _) | (with_reducible refine Kd.C_drewN ?_ _) | (with_reducible refine Kd.C_drew ?_))); (case side2 => exact HC1.out); rintro e w24 ⟨rfl, hb⟩; have n0_ := Aside0.mk (below_step (by repeat (first | (with_reducible first | exact HB.out | apply below_alloc | apply pw_below_drewN | apply below_drew1) | exact HB.out)) hb); clear HB; have HB := n0_; clear n0_; (try clear hb); (try clear hb2); (try clear hk); (try clear hi)) | (go_at_call 23; (with_reducible refine (ebbtideref14_Stable.calls kj8 a0 _ _ l1 t291 _ ?side1 ?side2 A23.out).mono ?_); (case side1 => repeat (first | exact (Kd.C_below HR1.out HB.out) | (with_reducible refine Kd.C_alloc ?_ _) | (with_reducible refine Kd.C_drewN ?_ _) | (with_reducible refine Kd.C_drew ?_))); (case side2 => exact HC1.out); rintro e w' ⟨rfl, ⟨nd, rfl⟩⟩))
              go_ret
              exact ⟨by first | rfl | (simp [errW_none, errW_some] <;> rfl) | (simp [*, errW_none, errW_some] <;> rfl), by repeat (first | (with_reducible first | exact HB.out | apply below_alloc | apply pw_below_drewN | apply below_drew1) | exact HB.out)⟩
            · replace c21 := Bool.eq_false_iff.mpr c21
              subst c21
              have H1 : (some true) = some r := by rw [if_neg (show ¬ (false = true) by decide)] at H; exact H
              clear H
              have H := H1
              clear H1
              obtain rfl := Option.some.inj H
              go_wp2_with (first | ((with_reducible refine gate_callee (f := 21) rfl ?_); refine goesL_ (some 26) rfl rfl Try.func21 (by kernel_rfl) rfl #[.slice A1 l1.length c1] rfl (by (try simp only [List.map_toArray, List.map_cons, List.map_nil]); first | done | rfl | (simp only [List.length_drop, List.length_take]; rfl)) ?_; (with_reducible refine (ebbtideref14_Begins.calls kj8 _ _ l1 false _ ?side1 ?side2 A20.out).mono ?_); (case side1 => repeat (first | exact (Kd.C_below HR1.out HB.out) | (with_reducible refine Kd.C_alloc ?_ _) | (with_reducible refine Kd.C_drewN ?_ _) | (with_reducible refine Kd.C_drew ?_))); (case side2 => exact HC1.out); rintro e w' ⟨rfl, ⟨nd, rfl⟩⟩; refine ⟨_, rfl, ?_⟩))
              go_ret
              exact ⟨by first | rfl | (simp [errW_none, errW_some] <;> rfl) | (simp [*, errW_none, errW_some] <;> rfl), by repeat (first | (with_reducible first | exact HB.out | apply below_alloc | apply pw_below_drewN | apply below_drew1) | exact HB.out)⟩
  · replace c5 := Bool.eq_false_iff.mpr c5
    subst c5
    have H1 : (none) = some r := by rw [if_neg (show ¬ (false = true) by decide)] at H; exact H
    clear H
    have H := H1
    clear H1
    exact absurd H (by simp)

/-- THE ONE PURE STATEMENT of ebbtidelaw14_SeqStable. -/
def ebbtidelaw14_SeqStable.Pure : Prop := ∀ (a0 : Int) (l1 : List (List (S29))) (a2 : Int), ((Lit.int .i64 a0).wf = true) → (l1.length ≤ maxLen ∧ ∀ x0_ ∈ l1, x0_.length ≤ maxLen ∧ ∀ x1_ ∈ x0_, Q29 x1_) → l1.length * 24 ≤ 140737488351232 → ((Lit.int .i64 a2).wf = true) → ∃ k, ebbtidelaw14_SeqStable.f k a0 l1 a2 = some true
theorem ebbtidelaw14_SeqStable.walk (P : ebbtidelaw14_SeqStable.Pure) (a0 : Int) (l1 : List (List (S29))) (a2 : Int) (w : World) (A1 : Option Addr) (c1 : Nat) (hr1 : Kd.C (Kd.slice 29 k29) w A1 l1.length l1) (hc1 : l1.length ≤ c1) (q0 : (Lit.int .i64 a0).wf = true) (q1 : l1.length ≤ maxLen ∧ ∀ x0_ ∈ l1, x0_.length ≤ maxLen ∧ ∀ x1_ ∈ x0_, Q29 x1_) (y1 : l1.length * 24 ≤ 140737488351232) (q2 : (Lit.int .i64 a2).wf = true) :
    Calls Try.prog 4 #[.int .i64 a0, .slice A1 l1.length c1, .int .i64 a2] w fun e w' => e = .returned (.bool true) ∧ Below w.heap.size w w' := by
  obtain ⟨k, h⟩ := P a0 l1 a2 q0 q1 y1 q2
  refine (ebbtidelaw14_SeqStable.calls k a0 A1 c1 l1 a2 true w hr1 hc1 h).mono ?_
  rintro e w' ⟨rfl, hd⟩
  exact ⟨rfl, hd⟩

end Go.Proofs.Ytejpddjdpcpepaa.X
