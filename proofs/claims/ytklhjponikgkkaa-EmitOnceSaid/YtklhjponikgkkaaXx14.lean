/- Printed by a program of this session's own: what functions of the program compute, and that the machine computes it. -/
import Derived.Test.YtklhjponikgkkaaXx0
import Derived.Test.YtklhjponikgkkaaXxS
namespace Go.Proofs.Ytklhjponikgkkaa.X
open Go.RowKit Go.Proofs.YtklhjponikgkkaaW.PrintWords Go.Proofs.YtklhjponikgkkaaW.PrintLast Go.Proofs.YtklhjponikgkkaaW.PrintMore
attribute [local go_sem] max2_int min2_int max_two min_two max_three min_three max_four min_four   -- for this text's walks alone
set_option linter.unusedVariables false
set_option linter.unusedSimpArgs false

/-! ### ebbtideref14_Waits: function 17 -/
mutual
def ebbtideref14_Waits.l0 : Nat → Int → List (List (S61)) → Int → Option (Bool)
 | 0, _, _, _ => none
 | k + 1, x0, x1, x5 => if x5 < (x1.length : Int) then (ebbtideref14_Waits.l1 k x0 x1 x5 0) else (some false)
def ebbtideref14_Waits.l1 : Nat → Int → List (List (S61)) → Int → Int → Option (Bool)
 | 0, _, _, _, _ => none
 | k + 1, x0, x1, x5, x6 => if 0 ≤ x5 then (if x5 < (x1.length : Int) then (if x6 < ((rd_L11 x1 x5).length : Int) then (if 0 ≤ x6 then (if ((rd_T61 (rd_L11 x1 x5) x6).f1) = x0 then (some true) else (ebbtideref14_Waits.l1 k x0 x1 x5 (wrap64 (x6 + 1)))) else (none)) else (ebbtideref14_Waits.l0 k x0 x1 (wrap64 (x5 + 1)))) else (none)) else (none)
end
def ebbtideref14_Waits.f (k : Nat) (a0 : Int) (l1 : List (List (S61))) : Option (Bool) := ebbtideref14_Waits.l0 k a0 l1 0
theorem ebbtideref14_Waits.mono_l : ∀ k, (∀ y0 y1 y2, LeO (ebbtideref14_Waits.l0 k y0 y1 y2) (ebbtideref14_Waits.l0 (k + 1) y0 y1 y2)) ∧ (∀ y0 y1 y2 y3, LeO (ebbtideref14_Waits.l1 k y0 y1 y2 y3) (ebbtideref14_Waits.l1 (k + 1) y0 y1 y2 y3))
 | 0 => ⟨fun _ _ _ r h => by simp [ebbtideref14_Waits.l0] at h, fun _ _ _ _ r h => by simp [ebbtideref14_Waits.l1] at h⟩
 | k + 1 => by
  obtain ⟨ih0, ih1⟩ := ebbtideref14_Waits.mono_l k
  refine ⟨?_, ?_⟩
  ·
   intro y0 y1 y2
   unfold ebbtideref14_Waits.l0
   repeat' first
   | (with_reducible exact ih0 _ _ _)
   | (with_reducible exact ih1 _ _ _ _)
   | (with_reducible exact LeO.refl _)
   | (with_reducible exact LeO.none _)
   | (with_reducible refine LeO.ite ?_ ?_)
   | (with_reducible refine LeO.bind ?_ (fun _ => ?_))
   | exact ih0 _ _ _
   | exact ih1 _ _ _ _
   | exact LeO.none _
   | refine LeO.ite ?_ ?_
   | refine LeO.bind ?_ (fun _ => ?_)
  ·
   intro y0 y1 y2 y3
   unfold ebbtideref14_Waits.l1
   repeat' first
   | (with_reducible exact ih0 _ _ _)
   | (with_reducible exact ih1 _ _ _ _)
   | (with_reducible exact LeO.refl _)
   | (with_reducible exact LeO.none _)
   | (with_reducible refine LeO.ite ?_ ?_)
   | (with_reducible refine LeO.bind ?_ (fun _ => ?_))
   | exact ih0 _ _ _
   | exact ih1 _ _ _ _
   | exact LeO.none _
   | refine LeO.ite ?_ ?_
   | refine LeO.bind ?_ (fun _ => ?_)
theorem ebbtideref14_Waits.mono : ∀ a0 a1 k, LeO (ebbtideref14_Waits.f k a0 a1) (ebbtideref14_Waits.f (k + 1) a0 a1) := by
 intro a0 a1 k
 obtain ⟨ih0, ih1⟩ := ebbtideref14_Waits.mono_l k
 unfold ebbtideref14_Waits.f
 repeat' first
  | (with_reducible exact ih0 _ _ _)
  | (with_reducible exact ih1 _ _ _ _)
  | (with_reducible exact LeO.refl _)
  | (with_reducible exact LeO.none _)
  | (with_reducible refine LeO.ite ?_ ?_)
  | (with_reducible refine LeO.bind ?_ (fun _ => ?_))
  | exact ih0 _ _ _
  | exact ih1 _ _ _ _
  | exact LeO.none _
  | refine LeO.ite ?_ ?_
  | refine LeO.bind ?_ (fun _ => ?_)
set_option maxHeartbeats 8000000 in
set_option maxRecDepth 100000 in
theorem ebbtideref14_Waits.calls (k : Nat) (a0 : Int) (A1 : Option Addr) (c1 : Nat) (l1 : List (List (S61))) (r : Bool) (w : World) (hr1 : Kd.C (Kd.slice 61 k61) w A1 l1.length l1) (hc1 : l1.length ≤ c1) (h : ebbtideref14_Waits.f k a0 l1 = some r) :
 Calls Try.prog 17 #[.int .i64 a0, .slice A1 l1.length c1] w fun e w' => e = .returned (.bool r) ∧ Drawn0 w w' := by
 have HR1 := Aside0.mk hr1
 have HC1 := Aside0.mk hc1
 clear hr1 hc1
 have H : (ebbtideref14_Waits.l0 k a0 l1 0) = some r := h
 clear h
 have H' := Aside0.mk H
 clear H
 go_enter Try.func17, Try.ntmps17
 go_wp2
 go_loopg [5] k (fun kq v5 w' => ∃ (x5_1 : Int), v5 = .int .i64 x5_1 ∧ Aside0 (ebbtideref14_Waits.l0 kq a0 l1 x5_1 = some r) ∧ Aside0 (kq ≤ k) ∧ Drawn0 w w')
 case atStart => exact ⟨(0), (by first | rfl | (simp; done) | (simp [*]; done)), H', ⟨Nat.le_refl _⟩, by repeat (first | exact Drawn0.refl _ | apply Drawn0.step)⟩
 case round =>
  clear H'
  try clear c1
  try clear p2
  obtain ⟨x5_1, rfl, HA, HK1, ⟨m1, rfl⟩⟩ := hrel
  cases gk with
  | zero => exact absurd HA.out (by simp [ebbtideref14_Waits.l0])
  | succ k1 =>
   have H := HA.out
   clear HA
   simp only [ebbtideref14_Waits.l0] at H
   by_cases c3 : x5_1 < (l1.length : Int)
   ·
    rw [if_pos c3] at H
    have c3b0 : decide (x5_1 < (l1.length : Int)) = true := decide_eq_true c3
    clear c3
    have H' := Aside0.mk H
    clear H
    go_wp2
    go_loopg [6] k1 (fun kq v6 w' => ∃ (x6_2 : Int), v6 = .int .i64 x6_2 ∧ Aside0 (ebbtideref14_Waits.l1 kq a0 l1 x5_1 x6_2 = some r) ∧ Aside0 (kq ≤ k1) ∧ Drawn0 w w')
    case atStart => exact ⟨(0), (by first | rfl | (simp; done) | (simp [*]; done)), H', ⟨Nat.le_refl _⟩, by repeat (first | exact Drawn0.refl _ | apply Drawn0.step)⟩
    case round =>
     clear H'
     try clear c1
     try clear p2
     try clear c3
     try clear c3b0
     try clear p2
     obtain ⟨x6_2, rfl, HA, HK2, ⟨m2, rfl⟩⟩ := hrel
     cases gk with
     | zero => exact absurd HA.out (by simp [ebbtideref14_Waits.l1])
     | succ k2 =>
      have H := HA.out
      clear HA
      simp only [ebbtideref14_Waits.l1] at H
      obtain ⟨c4, H⟩ := gd H
      have c4b0 : decide (0 ≤ x5_1) = true := decide_eq_true c4
      clear c4
      obtain ⟨c5, H⟩ := gd H
      have c5b0 : decide (x5_1 < (l1.length : Int)) = true := decide_eq_true c5
      clear c5
      by_cases c6 : x6_2 < ((rd_L11 l1 x5_1).length : Int)
      ·
       rw [if_pos c6] at H
       have c6b0 : decide (x6_2 < ((rd_L11 l1 x5_1).length : Int)) = true := decide_eq_true c6
       clear c6
       obtain ⟨c7, H⟩ := gd H
       have c7b0 : decide (0 ≤ x6_2) = true := decide_eq_true c7
       clear c7
       by_cases c8 : ((rd_T61 (rd_L11 l1 x5_1) x6_2).f1) = a0
       ·
        rw [if_pos c8] at H
        have c8b0 : (((rd_T61 (rd_L11 l1 x5_1) x6_2).f1) == a0) = true := beq_iff_eq.mpr c8
        have c8b1 : (((rd_T61 (rd_L11 l1 x5_1) x6_2).f1) != a0) = false := bne_eq_false_iff_eq.mpr c8
        clear c8
        obtain rfl := Option.some.inj H
        have p338 : 0 ≤ (x5_1 : Int) := od
        have q338 : x5_1 < (l1.length : Int) := od
        obtain ⟨ad338, A338_0, c338_0, e338, hx338_0, hl338_0, hi338_0⟩ := at_L11 HR1.out x5_1 p338 q338
        cases e338
        have HR338_0 := Aside0.mk hi338_0
        have HC338_0 := Aside0.mk hl338_0
        clear hi338_0 hl338_0
        replace p338 := eq_true p338
        replace q338 := eq_true q338
        have p339 : 0 ≤ (x5_1 : Int) := od
        have q339 : x5_1 < (l1.length : Int) := od
        obtain ⟨ad339, A339_0, c339_0, e339, hx339_0, hl339_0, hi339_0⟩ := at_L11 HR1.out x5_1 p339 q339
        obtain rfl : ad338 = ad339 := (by injection e339)
        have HR339_0 := Aside0.mk hi339_0
        have HC339_0 := Aside0.mk hl339_0
        clear hi339_0 hl339_0
        replace p339 := eq_true p339
        replace q339 := eq_true q339
        have ea_ := Option.some.inj (hx338_0.symm.trans hx339_0)
        injection ea_ with ea_ en_ ec_
        subst ea_
        subst ec_
        clear en_
        have p340 : 0 ≤ (x6_2 : Int) := od
        have q340 : x6_2 < ((rd_L11 l1 x5_1).length : Int) := od
        obtain ⟨ad340, e340, hx340_0, hx340_1, hx340_2, hx340_3⟩ := at_T61 HR339_0.out x6_2 p340 q340
        cases e340
        replace p340 := eq_true p340
        replace q340 := eq_true q340
        go_wp2
        go_ret
        exact ⟨by first | rfl | (simp; done) | (simp [*]; done), by repeat (first | exact Drawn0.refl _ | apply Drawn0.step)⟩
       ·
        rw [if_neg c8] at H
        have c8b0 : (((rd_T61 (rd_L11 l1 x5_1) x6_2).f1) == a0) = false := beq_eq_false_iff_ne.mpr c8
        have c8b1 : (((rd_T61 (rd_L11 l1 x5_1) x6_2).f1) != a0) = true := bne_iff_ne.mpr c8
        have H' := Aside0.mk H
        clear H
        have p338 : 0 ≤ (x5_1 : Int) := od
        have q338 : x5_1 < (l1.length : Int) := od
        obtain ⟨ad338, A338_0, c338_0, e338, hx338_0, hl338_0, hi338_0⟩ := at_L11 HR1.out x5_1 p338 q338
        cases e338
        have HR338_0 := Aside0.mk hi338_0
        have HC338_0 := Aside0.mk hl338_0
        clear hi338_0 hl338_0
        replace p338 := eq_true p338
        replace q338 := eq_true q338
        have p339 : 0 ≤ (x5_1 : Int) := od
        have q339 : x5_1 < (l1.length : Int) := od
        obtain ⟨ad339, A339_0, c339_0, e339, hx339_0, hl339_0, hi339_0⟩ := at_L11 HR1.out x5_1 p339 q339
        obtain rfl : ad338 = ad339 := (by injection e339)
        have HR339_0 := Aside0.mk hi339_0
        have HC339_0 := Aside0.mk hl339_0
        clear hi339_0 hl339_0
        replace p339 := eq_true p339
        replace q339 := eq_true q339
        have ea_ := Option.some.inj (hx338_0.symm.trans hx339_0)
        injection ea_ with ea_ en_ ec_
        subst ea_
        subst ec_
        clear en_
        have p340 : 0 ≤ (x6_2 : Int) := od
        have q340 : x6_2 < ((rd_L11 l1 x5_1).length : Int) := od
        obtain ⟨ad340, e340, hx340_0, hx340_1, hx340_2, hx340_3⟩ := at_T61 HR339_0.out x6_2 p340 q340
        cases e340
        replace p340 := eq_true p340
        replace q340 := eq_true q340
        go_wp2
        go_roundg k2
        case measure => have := HK1.out; have := HK2.out; omega
        case rel => exact ⟨(wrap64 (x6_2 + 1)), (by first | rfl | (simp; done) | (simp [*]; done)), H', ⟨by have := HK1.out; have := HK2.out; omega⟩, by repeat (first | exact Drawn0.refl _ | apply Drawn0.step)⟩
      ·
       rw [if_neg c6] at H
       have c6b0 : decide (x6_2 < ((rd_L11 l1 x5_1).length : Int)) = false := decide_eq_false c6
       clear c6
       have H' := Aside0.mk H
       clear H
       have p338 : 0 ≤ (x5_1 : Int) := od
       have q338 : x5_1 < (l1.length : Int) := od
       obtain ⟨ad338, A338_0, c338_0, e338, hx338_0, hl338_0, hi338_0⟩ := at_L11 HR1.out x5_1 p338 q338
       cases e338
       have HR338_0 := Aside0.mk hi338_0
       have HC338_0 := Aside0.mk hl338_0
       clear hi338_0 hl338_0
       replace p338 := eq_true p338
       replace q338 := eq_true q338
       go_wp2
       go_roundg k2
       case measure => have := HK1.out; have := HK2.out; omega
       case rel => exact ⟨(wrap64 (x5_1 + 1)), (by first | rfl | (simp; done) | (simp [*]; done)), H', ⟨by have := HK1.out; have := HK2.out; omega⟩, by repeat (first | exact Drawn0.refl _ | apply Drawn0.step)⟩
   ·
    rw [if_neg c3] at H
    have c3b0 : decide (x5_1 < (l1.length : Int)) = false := decide_eq_false c3
    clear c3
    obtain rfl := Option.some.inj H
    go_wp2
    go_ret
    exact ⟨by first | rfl | (simp; done) | (simp [*]; done), by repeat (first | exact Drawn0.refl _ | apply Drawn0.step)⟩

/-! ### ebbtideref17_out: function 29 -/
def ebbtideref17_out.l0 : Nat → List (S46) → Int → Int → Option (Bool)
 | 0, _, _, _ => none
 | k + 1, x0, x1, x5 => if x5 < (x0.length : Int) then (if 0 ≤ x5 then (if ((rd_T46 x0 x5).f0) = x1 then (some true) else (ebbtideref17_out.l0 k x0 x1 (wrap64 (x5 + 1)))) else (none)) else (some false)
def ebbtideref17_out.f (k : Nat) (l0 : List (S46)) (a1 : Int) : Option (Bool) := ebbtideref17_out.l0 k l0 a1 0
theorem ebbtideref17_out.mono_l : ∀ k, (∀ y0 y1 y2, LeO (ebbtideref17_out.l0 k y0 y1 y2) (ebbtideref17_out.l0 (k + 1) y0 y1 y2))
 | 0 => fun _ _ _ r h => by simp [ebbtideref17_out.l0] at h
 | k + 1 => by
  have ih0 := ebbtideref17_out.mono_l k
  ·
   intro y0 y1 y2
   unfold ebbtideref17_out.l0
   repeat' first
   | (with_reducible exact ih0 _ _ _)
   | (with_reducible exact LeO.refl _)
   | (with_reducible exact LeO.none _)
   | (with_reducible refine LeO.ite ?_ ?_)
   | (with_reducible refine LeO.bind ?_ (fun _ => ?_))
   | exact ih0 _ _ _
   | exact LeO.none _
   | refine LeO.ite ?_ ?_
   | refine LeO.bind ?_ (fun _ => ?_)
theorem ebbtideref17_out.mono : ∀ a0 a1 k, LeO (ebbtideref17_out.f k a0 a1) (ebbtideref17_out.f (k + 1) a0 a1) := by
 intro a0 a1 k
 have ih0 := ebbtideref17_out.mono_l k
 unfold ebbtideref17_out.f
 repeat' first
  | (with_reducible exact ih0 _ _ _)
  | (with_reducible exact LeO.refl _)
  | (with_reducible exact LeO.none _)
  | (with_reducible refine LeO.ite ?_ ?_)
  | (with_reducible refine LeO.bind ?_ (fun _ => ?_))
  | exact ih0 _ _ _
  | exact LeO.none _
  | refine LeO.ite ?_ ?_
  | refine LeO.bind ?_ (fun _ => ?_)
set_option maxHeartbeats 8000000 in
set_option maxRecDepth 100000 in
theorem ebbtideref17_out.calls (k : Nat) (A0 : Option Addr) (c0 : Nat) (l0 : List (S46)) (a1 : Int) (r : Bool) (w : World) (hr0 : Kd.C k46 w A0 l0.length l0) (hc0 : l0.length ≤ c0) (h : ebbtideref17_out.f k l0 a1 = some r) :
 Calls Try.prog 29 #[.slice A0 l0.length c0, .int .i64 a1] w fun e w' => e = .returned (.bool r) ∧ Drawn0 w w' := by
 have HR0 := Aside0.mk hr0
 have HC0 := Aside0.mk hc0
 clear hr0 hc0
 have H : (ebbtideref17_out.l0 k l0 a1 0) = some r := h
 clear h
 have H' := Aside0.mk H
 clear H
 go_enter Try.func29, Try.ntmps29
 go_wp2
 go_loopg [5] k (fun kq v5 w' => ∃ (x5_1 : Int), v5 = .int .i64 x5_1 ∧ Aside0 (ebbtideref17_out.l0 kq l0 a1 x5_1 = some r) ∧ Aside0 (kq ≤ k) ∧ Drawn0 w w')
 case atStart => exact ⟨(0), (by first | rfl | (simp; done) | (simp [*]; done)), H', ⟨Nat.le_refl _⟩, by repeat (first | exact Drawn0.refl _ | apply Drawn0.step)⟩
 case round =>
  clear H'
  try clear c2
  try clear p2
  obtain ⟨x5_1, rfl, HA, HK1, ⟨m1, rfl⟩⟩ := hrel
  cases gk with
  | zero => exact absurd HA.out (by simp [ebbtideref17_out.l0])
  | succ k1 =>
   have H := HA.out
   clear HA
   simp only [ebbtideref17_out.l0] at H
   by_cases c3 : x5_1 < (l0.length : Int)
   ·
    rw [if_pos c3] at H
    have c3b0 : decide (x5_1 < (l0.length : Int)) = true := decide_eq_true c3
    clear c3
    obtain ⟨c4, H⟩ := gd H
    have c4b0 : decide (0 ≤ x5_1) = true := decide_eq_true c4
    clear c4
    by_cases c5 : ((rd_T46 l0 x5_1).f0) = a1
    ·
     rw [if_pos c5] at H
     have c5b0 : (((rd_T46 l0 x5_1).f0) == a1) = true := beq_iff_eq.mpr c5
     have c5b1 : (((rd_T46 l0 x5_1).f0) != a1) = false := bne_eq_false_iff_eq.mpr c5
     clear c5
     obtain rfl := Option.some.inj H
     have p341 : 0 ≤ (x5_1 : Int) := od
     have q341 : x5_1 < (l0.length : Int) := od
     obtain ⟨ad341, e341, hx341_0, hx341_1⟩ := at_T46 HR0.out x5_1 p341 q341
     cases e341
     replace p341 := eq_true p341
     replace q341 := eq_true q341
     go_wp2
     go_ret
     exact ⟨by first | rfl | (simp; done) | (simp [*]; done), by repeat (first | exact Drawn0.refl _ | apply Drawn0.step)⟩
    ·
     rw [if_neg c5] at H
     have c5b0 : (((rd_T46 l0 x5_1).f0) == a1) = false := beq_eq_false_iff_ne.mpr c5
     have c5b1 : (((rd_T46 l0 x5_1).f0) != a1) = true := bne_iff_ne.mpr c5
     have H' := Aside0.mk H
     clear H
     have p341 : 0 ≤ (x5_1 : Int) := od
     have q341 : x5_1 < (l0.length : Int) := od
     obtain ⟨ad341, e341, hx341_0, hx341_1⟩ := at_T46 HR0.out x5_1 p341 q341
     cases e341
     replace p341 := eq_true p341
     replace q341 := eq_true q341
     go_wp2
     go_roundg k1
     case measure => have := HK1.out; omega
     case rel => exact ⟨(wrap64 (x5_1 + 1)), (by first | rfl | (simp; done) | (simp [*]; done)), H', ⟨by have := HK1.out; omega⟩, by repeat (first | exact Drawn0.refl _ | apply Drawn0.step)⟩
   ·
    rw [if_neg c3] at H
    have c3b0 : decide (x5_1 < (l0.length : Int)) = false := decide_eq_false c3
    clear c3
    obtain rfl := Option.some.inj H
    go_wp2
    go_ret
    exact ⟨by first | rfl | (simp; done) | (simp [*]; done), by repeat (first | exact Drawn0.refl _ | apply Drawn0.step)⟩

end Go.Proofs.Ytklhjponikgkkaa.X
