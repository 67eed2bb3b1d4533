/- Printed by a program of this session's own: what functions of the program compute, and that the machine computes it. -/
import Derived.Test.YtklhjponikgkkaaXx0
import Derived.Test.YtklhjponikgkkaaXx3
import Derived.Test.YtklhjponikgkkaaXx12
import Derived.Test.YtklhjponikgkkaaXx13
import Derived.Test.YtklhjponikgkkaaXx14
import Derived.Test.YtklhjponikgkkaaXxS
namespace Go.Proofs.Ytklhjponikgkkaa.X
open Go.RowKit Go.Proofs.YtklhjponikgkkaaW.PrintWords Go.Proofs.YtklhjponikgkkaaW.PrintLast Go.Proofs.YtklhjponikgkkaaW.PrintMore
attribute [local go_sem] max2_int min2_int max_two min_two max_three min_three max_four min_four   -- for this text's walks alone
set_option linter.unusedVariables false
set_option linter.unusedSimpArgs false

/-! ### ebbtideref17_Next: function 10 -/
mutual
def ebbtideref17_Next.l0 : Nat → Int → List (S46) → List (List (S61)) → List (S50) → Int → Bool → Int → Int → Int → Int → Int → Int → Option (Int × Bool)
 | 0, _, _, _, _, _, _, _, _, _, _, _, _ => none
 | k + 1, x1, x2, x3, x4, x12, x13, x14, x343000, x343001, x343002, x343003, x343004 => if x14 < (x4.length : Int) then (ebbtideref17_Next.l1 k x1 x2 x3 x4 x12 x13 x14 0 x343000 x343001 x343002 x343003 x343004) else (some (x12, x13))
def ebbtideref17_Next.l1 : Nat → Int → List (S46) → List (List (S61)) → List (S50) → Int → Bool → Int → Int → Int → Int → Int → Int → Int → Option (Int × Bool)
 | 0, _, _, _, _, _, _, _, _, _, _, _, _, _ => none
 | k + 1, x1, x2, x3, x4, x12, x13, x14, x15, x343000, x343001, x343002, x343003, x343004 => if 0 ≤ x14 then (if x14 < (x4.length : Int) then (if x15 < (((rd_T50 x4 x14).f0).length : Int) then (if 0 ≤ x15 then ((ebbtideref13_Closed.f ((rd_T70 ((rd_T50 x4 x14).f0) x15).f0) x343002 x343003 x1).bind fun t346 => (if t346 = true then ((ebbtideref17_out.f k x2 ((rd_T70 ((rd_T50 x4 x14).f0) x15).f0)).bind fun t347 => (if t347 = true then (ebbtideref17_Next.l1 k x1 x2 x3 x4 x12 x13 x14 (wrap64 (x15 + 1)) x343000 x343001 x343002 x343003 x343004) else ((ebbtideref14_Waits.f k ((rd_T70 ((rd_T50 x4 x14).f0) x15).f0) x3).bind fun t348 => (if t348 = true then (ebbtideref17_Next.l1 k x1 x2 x3 x4 x12 x13 x14 (wrap64 (x15 + 1)) x343000 x343001 x343002 x343003 x343004) else (if x13 = true then (if ((rd_T70 ((rd_T50 x4 x14).f0) x15).f0) < x12 then (ebbtideref17_Next.l1 k x1 x2 x3 x4 ((rd_T70 ((rd_T50 x4 x14).f0) x15).f0) true x14 (wrap64 (x15 + 1)) x343000 x343001 x343002 x343003 x343004) else (ebbtideref17_Next.l1 k x1 x2 x3 x4 x12 x13 x14 (wrap64 (x15 + 1)) x343000 x343001 x343002 x343003 x343004)) else (ebbtideref17_Next.l1 k x1 x2 x3 x4 ((rd_T70 ((rd_T50 x4 x14).f0) x15).f0) true x14 (wrap64 (x15 + 1)) x343000 x343001 x343002 x343003 x343004)))))) else (ebbtideref17_Next.l1 k x1 x2 x3 x4 x12 x13 x14 (wrap64 (x15 + 1)) x343000 x343001 x343002 x343003 x343004))) else (none)) else (ebbtideref17_Next.l0 k x1 x2 x3 x4 x12 x13 (wrap64 (x14 + 1)) x343000 x343001 x343002 x343003 x343004)) else (none)) else (none)
end
def ebbtideref17_Next.f (k : Nat) (a0_0 : Int) (a0_1 : Int) (a0_2 : Int) (a0_3 : Int) (a0_4 : Int) (a1 : Int) (l2 : List (S46)) (l3 : List (List (S61))) (l4 : List (S50)) : Option (Int × Bool) := ebbtideref17_Next.l0 k a1 l2 l3 l4 0 false 0 a0_0 a0_1 a0_2 a0_3 a0_4
theorem ebbtideref17_Next.mono_l : ∀ k, (∀ y0 y1 y2 y3 y4 y5 y6 y7 y8 y9 y10 y11, LeO (ebbtideref17_Next.l0 k y0 y1 y2 y3 y4 y5 y6 y7 y8 y9 y10 y11) (ebbtideref17_Next.l0 (k + 1) y0 y1 y2 y3 y4 y5 y6 y7 y8 y9 y10 y11)) ∧ (∀ y0 y1 y2 y3 y4 y5 y6 y7 y8 y9 y10 y11 y12, LeO (ebbtideref17_Next.l1 k y0 y1 y2 y3 y4 y5 y6 y7 y8 y9 y10 y11 y12) (ebbtideref17_Next.l1 (k + 1) y0 y1 y2 y3 y4 y5 y6 y7 y8 y9 y10 y11 y12))
 | 0 => ⟨fun _ _ _ _ _ _ _ _ _ _ _ _ r h => by simp [ebbtideref17_Next.l0] at h, fun _ _ _ _ _ _ _ _ _ _ _ _ _ r h => by simp [ebbtideref17_Next.l1] at h⟩
 | k + 1 => by
  obtain ⟨ih0, ih1⟩ := ebbtideref17_Next.mono_l k
  refine ⟨?_, ?_⟩
  ·
   intro y0 y1 y2 y3 y4 y5 y6 y7 y8 y9 y10 y11
   unfold ebbtideref17_Next.l0
   repeat' first
   | (with_reducible exact ih0 _ _ _ _ _ _ _ _ _ _ _ _)
   | (with_reducible exact ih1 _ _ _ _ _ _ _ _ _ _ _ _ _)
   | (with_reducible exact ebbtideref14_Waits.mono _ _ _)
   | (with_reducible exact ebbtideref17_out.mono _ _ _)
   | (with_reducible exact LeO.refl _)
   | (with_reducible exact LeO.none _)
   | (with_reducible refine LeO.ite ?_ ?_)
   | (with_reducible refine LeO.bind ?_ (fun _ => ?_))
   | exact ih0 _ _ _ _ _ _ _ _ _ _ _ _
   | exact ih1 _ _ _ _ _ _ _ _ _ _ _ _ _
   | exact ebbtideref14_Waits.mono _ _ _
   | exact ebbtideref17_out.mono _ _ _
   | exact LeO.none _
   | refine LeO.ite ?_ ?_
   | refine LeO.bind ?_ (fun _ => ?_)
  ·
   intro y0 y1 y2 y3 y4 y5 y6 y7 y8 y9 y10 y11 y12
   unfold ebbtideref17_Next.l1
   repeat' first
   | (with_reducible exact ih0 _ _ _ _ _ _ _ _ _ _ _ _)
   | (with_reducible exact ih1 _ _ _ _ _ _ _ _ _ _ _ _ _)
   | (with_reducible exact ebbtideref14_Waits.mono _ _ _)
   | (with_reducible exact ebbtideref17_out.mono _ _ _)
   | (with_reducible exact LeO.refl _)
   | (with_reducible exact LeO.none _)
   | (with_reducible refine LeO.ite ?_ ?_)
   | (with_reducible refine LeO.bind ?_ (fun _ => ?_))
   | exact ih0 _ _ _ _ _ _ _ _ _ _ _ _
   | exact ih1 _ _ _ _ _ _ _ _ _ _ _ _ _
   | exact ebbtideref14_Waits.mono _ _ _
   | exact ebbtideref17_out.mono _ _ _
   | exact LeO.none _
   | refine LeO.ite ?_ ?_
   | refine LeO.bind ?_ (fun _ => ?_)
theorem ebbtideref17_Next.mono : ∀ a0 a1 a2 a3 a4 a5 a6 a7 a8 k, LeO (ebbtideref17_Next.f k a0 a1 a2 a3 a4 a5 a6 a7 a8) (ebbtideref17_Next.f (k + 1) a0 a1 a2 a3 a4 a5 a6 a7 a8) := by
 intro a0 a1 a2 a3 a4 a5 a6 a7 a8 k
 obtain ⟨ih0, ih1⟩ := ebbtideref17_Next.mono_l k
 unfold ebbtideref17_Next.f
 repeat' first
  | (with_reducible exact ih0 _ _ _ _ _ _ _ _ _ _ _ _)
  | (with_reducible exact ih1 _ _ _ _ _ _ _ _ _ _ _ _ _)
  | (with_reducible exact ebbtideref14_Waits.mono _ _ _)
  | (with_reducible exact ebbtideref17_out.mono _ _ _)
  | (with_reducible exact LeO.refl _)
  | (with_reducible exact LeO.none _)
  | (with_reducible refine LeO.ite ?_ ?_)
  | (with_reducible refine LeO.bind ?_ (fun _ => ?_))
  | exact ih0 _ _ _ _ _ _ _ _ _ _ _ _
  | exact ih1 _ _ _ _ _ _ _ _ _ _ _ _ _
  | exact ebbtideref14_Waits.mono _ _ _
  | exact ebbtideref17_out.mono _ _ _
  | exact LeO.none _
  | refine LeO.ite ?_ ?_
  | refine LeO.bind ?_ (fun _ => ?_)
set_option maxHeartbeats 8000000 in
set_option maxRecDepth 100000 in
theorem ebbtideref17_Next.calls (k : Nat) (a0_0 : Int) (a0_1 : Int) (a0_2 : Int) (a0_3 : Int) (a0_4 : Int) (a1 : Int) (A2 : Option Addr) (c2 : Nat) (l2 : List (S46)) (A3 : Option Addr) (c3 : Nat) (l3 : List (List (S61))) (A4 : Option Addr) (c4 : Nat) (l4 : List (S50)) (r1 : Int) (r2 : Bool) (w : World) (hr2 : Kd.C k46 w A2 l2.length l2) (hc2 : l2.length ≤ c2) (hr3 : Kd.C (Kd.slice 61 k61) w A3 l3.length l3) (hc3 : l3.length ≤ c3) (hr4 : Kd.C k50 w A4 l4.length l4) (hc4 : l4.length ≤ c4) (h : ebbtideref17_Next.f k a0_0 a0_1 a0_2 a0_3 a0_4 a1 l2 l3 l4 = some (r1, r2)) :
 Calls Try.prog 10 #[.agg #[.int .i64 a0_0, .int .i64 a0_1, .int .i64 a0_2, .int .i64 a0_3, .int .i64 a0_4], .int .i64 a1, .slice A2 l2.length c2, .slice A3 l3.length c3, .slice A4 l4.length c4] w fun e w' => e = .returned (.tuple #[.int .i64 r1, .bool r2]) ∧ Below w.heap.size w w' := by
 have hu23 := Try.underlying23
 have HR2 := Aside0.mk hr2
 have HC2 := Aside0.mk hc2
 clear hr2 hc2
 have HR3 := Aside0.mk hr3
 have HC3 := Aside0.mk hc3
 clear hr3 hc3
 have HR4 := Aside0.mk hr4
 have HC4 := Aside0.mk hc4
 clear hr4 hc4
 have HB := Aside0.mk (Below.refl w.heap.size w)
 have H : (ebbtideref17_Next.l0 k a1 l2 l3 l4 0 false 0 a0_0 a0_1 a0_2 a0_3 a0_4) = some (r1, r2) := h
 clear h
 have H' := Aside0.mk H
 clear H
 go_enter Try.func10, Try.ntmps10
 go_wp2_with (first | ((with_reducible refine gate_dst (N := 5) rfl ?_); refine box_event ?hg (N := 5) ?hd (cs := #[.int .i64 a0_0, .int .i64 a0_1, .int .i64 a0_2, .int .i64 a0_3, .int .i64 a0_4]) (t := 23) ?hr ?_; (case hd => rfl); (case hg => rfl); (case hr => first | (go_simp; done) | (go_simp; rfl)); intro gb342 hg w6 hbox hb; have BK342 := Aside0.mk (hbox); have GW342 := Aside0.mk ((by rw [hg]; exact (below_size (uW HB.out)) : w.heap.size ≤ gb342)); have GE342 := Aside0.mk ((by rw [hg]; exact (below_size (uW HB.out)) : w.heap.size ≤ gb342)); replace HB := cW HB hb; clear hb hbox hg))
 go_loopg [12, 13, 14] k (fun kq v12 v13 v14 w' => ∃ (x12_1 : Int) (x13_1 : Bool) (x14_1 : Int), v12 = .int .i64 x12_1 ∧ v13 = .bool x13_1 ∧ v14 = .int .i64 x14_1 ∧ Aside0 (ebbtideref17_Next.l0 kq a1 l2 l3 l4 x12_1 x13_1 x14_1 a0_0 a0_1 a0_2 a0_3 a0_4 = some (r1, r2)) ∧ Aside0 (kq ≤ k) ∧ Aside0 (w'.heap[gb342]? = some (.cells #[.int .i64 a0_0, .int .i64 a0_1, .int .i64 a0_2, .int .i64 a0_3, .int .i64 a0_4] 23 (0, 0))) ∧ Aside0 (Below w.heap.size w w'))
 case atStart => exact ⟨(0), (false), (0), (by first | rfl | (simp; done) | (simp [*]; done)), (by first | rfl | (simp; done) | (simp [*]; done)), (by first | rfl | (simp; done) | (simp [*]; done)), H', ⟨Nat.le_refl _⟩, ⟨by exact uB <| BK342.out⟩, ⟨by repeat (first | (with_reducible first | exact HB.out | apply below_alloc | apply pw_below_drewN | apply below_drew1 | refine below_set ?_ GE342.out) | exact HB.out)⟩⟩
 case round =>
  clear H'
  try clear c1
  try clear c2
  try clear p2
  try clear c3
  try clear c4
  obtain ⟨x12_1, x13_1, x14_1, rfl, rfl, rfl, HA, HK1, BK342, HB⟩ := hrel
  cases gk with
  | zero => exact absurd HA.out (by simp [ebbtideref17_Next.l0])
  | succ k1 =>
   have H := HA.out
   clear HA
   simp only [ebbtideref17_Next.l0] at H
   by_cases c7 : x14_1 < (l4.length : Int)
   ·
    rw [if_pos c7] at H
    have c7b0 : decide (x14_1 < (l4.length : Int)) = true := decide_eq_true c7
    clear c7
    have H' := Aside0.mk H
    clear H
    go_wp2
    go_loopg [12, 13, 15] k1 (fun kq v12 v13 v15 w' => ∃ (x12_2 : Int) (x13_2 : Bool) (x15_2 : Int), v12 = .int .i64 x12_2 ∧ v13 = .bool x13_2 ∧ v15 = .int .i64 x15_2 ∧ Aside0 (ebbtideref17_Next.l1 kq a1 l2 l3 l4 x12_2 x13_2 x14_1 x15_2 a0_0 a0_1 a0_2 a0_3 a0_4 = some (r1, r2)) ∧ Aside0 (kq ≤ k1) ∧ Aside0 (w'.heap[gb342]? = some (.cells #[.int .i64 a0_0, .int .i64 a0_1, .int .i64 a0_2, .int .i64 a0_3, .int .i64 a0_4] 23 (0, 0))) ∧ Aside0 (Below w.heap.size w w'))
    case atStart => exact ⟨(x12_1), (x13_1), (0), (by first | rfl | (simp; done) | (simp [*]; done)), (by first | rfl | (simp; done) | (simp [*]; done)), (by first | rfl | (simp; done) | (simp [*]; done)), H', ⟨Nat.le_refl _⟩, ⟨by exact uB <| BK342.out⟩, ⟨by repeat (first | (with_reducible first | exact HB.out | apply below_alloc | apply pw_below_drewN | apply below_drew1 | refine below_set ?_ GE342.out) | exact HB.out)⟩⟩
    case round =>
     clear H'
     try clear c1
     try clear c2
     try clear p2
     try clear c3
     try clear c4
     try clear c7
     try clear c7b0
     try clear p2
     obtain ⟨x12_2, x13_2, x15_2, rfl, rfl, rfl, HA, HK2, BK342, HB⟩ := hrel
     cases gk with
     | zero => exact absurd HA.out (by simp [ebbtideref17_Next.l1])
     | succ k2 =>
      have H := HA.out
      clear HA
      simp only [ebbtideref17_Next.l1] at H
      obtain ⟨c8, H⟩ := gd H
      have c8b0 : decide (0 ≤ x14_1) = true := decide_eq_true c8
      clear c8
      obtain ⟨c9, H⟩ := gd H
      have c9b0 : decide (x14_1 < (l4.length : Int)) = true := decide_eq_true c9
      clear c9
      by_cases c10 : x15_2 < (((rd_T50 l4 x14_1).f0).length : Int)
      ·
       rw [if_pos c10] at H
       have c10b0 : decide (x15_2 < (((rd_T50 l4 x14_1).f0).length : Int)) = true := decide_eq_true c10
       clear c10
       obtain ⟨c11, H⟩ := gd H
       have c11b0 : decide (0 ≤ x15_2) = true := decide_eq_true c11
       clear c11
       replace H := Option.bind_eq_some_iff.mp H
       obtain ⟨t346, A120, H⟩ := H
       replace H : (if t346 = true then ((ebbtideref17_out.f k2 l2 ((rd_T70 ((rd_T50 l4 x14_1).f0) x15_2).f0)).bind fun t347 => (if t347 = true then (ebbtideref17_Next.l1 k2 a1 l2 l3 l4 x12_2 x13_2 x14_1 (wrap64 (x15_2 + 1)) a0_0 a0_1 a0_2 a0_3 a0_4) else ((ebbtideref14_Waits.f k2 ((rd_T70 ((rd_T50 l4 x14_1).f0) x15_2).f0) l3).bind fun t348 => (if t348 = true then (ebbtideref17_Next.l1 k2 a1 l2 l3 l4 x12_2 x13_2 x14_1 (wrap64 (x15_2 + 1)) a0_0 a0_1 a0_2 a0_3 a0_4) else (if x13_2 = true then (if ((rd_T70 ((rd_T50 l4 x14_1).f0) x15_2).f0) < x12_2 then (ebbtideref17_Next.l1 k2 a1 l2 l3 l4 ((rd_T70 ((rd_T50 l4 x14_1).f0) x15_2).f0) true x14_1 (wrap64 (x15_2 + 1)) a0_0 a0_1 a0_2 a0_3 a0_4) else (ebbtideref17_Next.l1 k2 a1 l2 l3 l4 x12_2 x13_2 x14_1 (wrap64 (x15_2 + 1)) a0_0 a0_1 a0_2 a0_3 a0_4)) else (ebbtideref17_Next.l1 k2 a1 l2 l3 l4 ((rd_T70 ((rd_T50 l4 x14_1).f0) x15_2).f0) true x14_1 (wrap64 (x15_2 + 1)) a0_0 a0_1 a0_2 a0_3 a0_4)))))) else (ebbtideref17_Next.l1 k2 a1 l2 l3 l4 x12_2 x13_2 x14_1 (wrap64 (x15_2 + 1)) a0_0 a0_1 a0_2 a0_3 a0_4)) = some (r1, r2) := H
       have A12 := Aside0.mk A120
       clear A120
       by_cases c13 : t346 = true
       ·
        subst c13
        rw [if_pos rfl] at H
        replace H := Option.bind_eq_some_iff.mp H
        obtain ⟨t347, A140, H⟩ := H
        replace H : (if t347 = true then (ebbtideref17_Next.l1 k2 a1 l2 l3 l4 x12_2 x13_2 x14_1 (wrap64 (x15_2 + 1)) a0_0 a0_1 a0_2 a0_3 a0_4) else ((ebbtideref14_Waits.f k2 ((rd_T70 ((rd_T50 l4 x14_1).f0) x15_2).f0) l3).bind fun t348 => (if t348 = true then (ebbtideref17_Next.l1 k2 a1 l2 l3 l4 x12_2 x13_2 x14_1 (wrap64 (x15_2 + 1)) a0_0 a0_1 a0_2 a0_3 a0_4) else (if x13_2 = true then (if ((rd_T70 ((rd_T50 l4 x14_1).f0) x15_2).f0) < x12_2 then (ebbtideref17_Next.l1 k2 a1 l2 l3 l4 ((rd_T70 ((rd_T50 l4 x14_1).f0) x15_2).f0) true x14_1 (wrap64 (x15_2 + 1)) a0_0 a0_1 a0_2 a0_3 a0_4) else (ebbtideref17_Next.l1 k2 a1 l2 l3 l4 x12_2 x13_2 x14_1 (wrap64 (x15_2 + 1)) a0_0 a0_1 a0_2 a0_3 a0_4)) else (ebbtideref17_Next.l1 k2 a1 l2 l3 l4 ((rd_T70 ((rd_T50 l4 x14_1).f0) x15_2).f0) true x14_1 (wrap64 (x15_2 + 1)) a0_0 a0_1 a0_2 a0_3 a0_4))))) = some (r1, r2) := H
        have A14 := Aside0.mk A140
        clear A140
        by_cases c15 : t347 = true
        ·
         subst c15
         rw [if_pos rfl] at H
         have H' := Aside0.mk H
         clear H
         have p343 : 0 ≤ (x14_1 : Int) := od
         have q343 : x14_1 < (l4.length : Int) := od
         obtain ⟨ad343, A343_0, c343_0, e343, hx343_0, hl343_0, hi343_0⟩ := at_T50 HR4.out x14_1 p343 q343
         cases e343
         replace hx343_0 := kc HB hx343_0
         have HR343_0 := Aside0.mk hi343_0
         have HC343_0 := Aside0.mk hl343_0
         clear hi343_0 hl343_0
         replace p343 := eq_true p343
         replace q343 := eq_true q343
         have p344 : 0 ≤ (x14_1 : Int) := od
         have q344 : x14_1 < (l4.length : Int) := od
         obtain ⟨ad344, A344_0, c344_0, e344, hx344_0, hl344_0, hi344_0⟩ := at_T50 HR4.out x14_1 p344 q344
         obtain rfl : ad343 = ad344 := (by injection e344)
         replace hx344_0 := kc HB hx344_0
         have HR344_0 := Aside0.mk hi344_0
         have HC344_0 := Aside0.mk hl344_0
         clear hi344_0 hl344_0
         replace p344 := eq_true p344
         replace q344 := eq_true q344
         have ea_ := Option.some.inj (hx343_0.symm.trans hx344_0)
         injection ea_ with ea_ en_ ec_
         subst ea_
         subst ec_
         clear en_
         have p345 : 0 ≤ (x15_2 : Int) := od
         have q345 : x15_2 < (((rd_T50 l4 x14_1).f0).length : Int) := od
         obtain ⟨ad345, A345_2, c345_2, e345, hx345_0, hx345_1, hx345_2, hl345_2, hi345_2⟩ := at_T70 HR344_0.out x15_2 p345 q345
         cases e345
         replace hx345_0 := kc HB hx345_0
         replace hx345_1 := kc HB hx345_1
         replace hx345_2 := kc HB hx345_2
         have HR345_2 := Aside0.mk hi345_2
         have HC345_2 := Aside0.mk hl345_2
         clear hi345_2 hl345_2
         replace p345 := eq_true p345
         replace q345 := eq_true q345
         have hcz16_0 : wr.cell? ⟨gb342, 0, none⟩ = some (.int .i64 a0_0) := (blk_cell BK342.out 0).trans rfl
         have hcz16_1 : wr.cell? ⟨gb342, 1, none⟩ = some (.int .i64 a0_1) := (blk_cell BK342.out 1).trans rfl
         have hcz16_2 : wr.cell? ⟨gb342, 2, none⟩ = some (.int .i64 a0_2) := (blk_cell BK342.out 2).trans rfl
         have hcz16_3 : wr.cell? ⟨gb342, 3, none⟩ = some (.int .i64 a0_3) := (blk_cell BK342.out 3).trans rfl
         have hcz16_4 : wr.cell? ⟨gb342, 4, none⟩ = some (.int .i64 a0_4) := (blk_cell BK342.out 4).trans rfl
         have hfz16_0 := blk_frozen BK342.out 0
         have hfz16_1 := blk_frozen BK342.out 1
         have hfz16_2 := blk_frozen BK342.out 2
         have hfz16_3 := blk_frozen BK342.out 3
         have hfz16_4 := blk_frozen BK342.out 4
         go_wp2_with (first | ((with_reducible refine gate_callee (f := 16) rfl ?_); refine goesL_ (some 48) rfl rfl Try.func16 (by kernel_rfl) rfl #[.int .i64 ((rd_T70 ((rd_T50 l4 x14_1).f0) x15_2).f0), .int .i64 a0_2, .int .i64 a0_3, .int .i64 a1] rfl (by (try simp only [List.map_toArray, List.map_cons, List.map_nil]); first | done | rfl | (simp only [List.length_drop, List.length_take]; rfl)) ?_; (with_reducible refine (ebbtideref13_Closed.calls ((rd_T70 ((rd_T50 l4 x14_1).f0) x15_2).f0) a0_2 a0_3 a1 true _ A12.out).mono ?_); rintro e w' ⟨rfl, ⟨nd, rfl⟩⟩; refine ⟨_, rfl, ?_⟩) | (go_at_call 29; (with_reducible refine (ebbtideref17_out.calls k2 _ _ l2 ((rd_T70 ((rd_T50 l4 x14_1).f0) x15_2).f0) true _ ?side1 ?side2 A14.out).mono ?_); (case side1 => repeat (first | exact (Kd.C_below HR2.out (by repeat (first | (with_reducible first | exact HB.out | apply below_alloc | apply pw_below_drewN | apply below_drew1 | refine below_set ?_ GE342.out) | exact HB.out))) | (with_reducible refine Kd.C_alloc ?_ _) | (with_reducible refine Kd.C_drewN ?_ _) | (with_reducible refine Kd.C_drew ?_))); (case side2 => exact HC2.out); rintro e w' ⟨rfl, ⟨nd, rfl⟩⟩))
         go_roundg k2
         case measure => have := HK1.out; have := HK2.out; omega
         case rel => exact ⟨(x12_2), (x13_2), (wrap64 (x15_2 + 1)), (by first | rfl | (simp; done) | (simp [*]; done)), (by first | rfl | (simp; done) | (simp [*]; done)), (by first | rfl | (simp; done) | (simp [*]; done)), H', ⟨by have := HK1.out; have := HK2.out; omega⟩, ⟨by exact uB <| BK342.out⟩, ⟨by repeat (first | (with_reducible first | exact HB.out | apply below_alloc | apply pw_below_drewN | apply below_drew1 | refine below_set ?_ GE342.out) | exact HB.out)⟩⟩
        ·
         replace c15 := Bool.eq_false_iff.mpr c15
         subst c15
         rw [if_neg (show ¬ (false = true) by decide)] at H
         replace H := Option.bind_eq_some_iff.mp H
         obtain ⟨t348, A170, H⟩ := H
         replace H : (if t348 = true then (ebbtideref17_Next.l1 k2 a1 l2 l3 l4 x12_2 x13_2 x14_1 (wrap64 (x15_2 + 1)) a0_0 a0_1 a0_2 a0_3 a0_4) else (if x13_2 = true then (if ((rd_T70 ((rd_T50 l4 x14_1).f0) x15_2).f0) < x12_2 then (ebbtideref17_Next.l1 k2 a1 l2 l3 l4 ((rd_T70 ((rd_T50 l4 x14_1).f0) x15_2).f0) true x14_1 (wrap64 (x15_2 + 1)) a0_0 a0_1 a0_2 a0_3 a0_4) else (ebbtideref17_Next.l1 k2 a1 l2 l3 l4 x12_2 x13_2 x14_1 (wrap64 (x15_2 + 1)) a0_0 a0_1 a0_2 a0_3 a0_4)) else (ebbtideref17_Next.l1 k2 a1 l2 l3 l4 ((rd_T70 ((rd_T50 l4 x14_1).f0) x15_2).f0) true x14_1 (wrap64 (x15_2 + 1)) a0_0 a0_1 a0_2 a0_3 a0_4))) = some (r1, r2) := H
         have A17 := Aside0.mk A170
         clear A170
         by_cases c18 : t348 = true
         ·
          subst c18
          rw [if_pos rfl] at H
          have H' := Aside0.mk H
          clear H
          have p343 : 0 ≤ (x14_1 : Int) := od
          have q343 : x14_1 < (l4.length : Int) := od
          obtain ⟨ad343, A343_0, c343_0, e343, hx343_0, hl343_0, hi343_0⟩ := at_T50 HR4.out x14_1 p343 q343
          cases e343
          replace hx343_0 := kc HB hx343_0
          have HR343_0 := Aside0.mk hi343_0
          have HC343_0 := Aside0.mk hl343_0
          clear hi343_0 hl343_0
          replace p343 := eq_true p343
          replace q343 := eq_true q343
          have p344 : 0 ≤ (x14_1 : Int) := od
          have q344 : x14_1 < (l4.length : Int) := od
          obtain ⟨ad344, A344_0, c344_0, e344, hx344_0, hl344_0, hi344_0⟩ := at_T50 HR4.out x14_1 p344 q344
          obtain rfl : ad343 = ad344 := (by injection e344)
          replace hx344_0 := kc HB hx344_0
          have HR344_0 := Aside0.mk hi344_0
          have HC344_0 := Aside0.mk hl344_0
          clear hi344_0 hl344_0
          replace p344 := eq_true p344
          replace q344 := eq_true q344
          have ea_ := Option.some.inj (hx343_0.symm.trans hx344_0)
          injection ea_ with ea_ en_ ec_
          subst ea_
          subst ec_
          clear en_
          have p345 : 0 ≤ (x15_2 : Int) := od
          have q345 : x15_2 < (((rd_T50 l4 x14_1).f0).length : Int) := od
          obtain ⟨ad345, A345_2, c345_2, e345, hx345_0, hx345_1, hx345_2, hl345_2, hi345_2⟩ := at_T70 HR344_0.out x15_2 p345 q345
          cases e345
          replace hx345_0 := kc HB hx345_0
          replace hx345_1 := kc HB hx345_1
          replace hx345_2 := kc HB hx345_2
          have HR345_2 := Aside0.mk hi345_2
          have HC345_2 := Aside0.mk hl345_2
          clear hi345_2 hl345_2
          replace p345 := eq_true p345
          replace q345 := eq_true q345
          have hcz19_0 : wr.cell? ⟨gb342, 0, none⟩ = some (.int .i64 a0_0) := (blk_cell BK342.out 0).trans rfl
          have hcz19_1 : wr.cell? ⟨gb342, 1, none⟩ = some (.int .i64 a0_1) := (blk_cell BK342.out 1).trans rfl
          have hcz19_2 : wr.cell? ⟨gb342, 2, none⟩ = some (.int .i64 a0_2) := (blk_cell BK342.out 2).trans rfl
          have hcz19_3 : wr.cell? ⟨gb342, 3, none⟩ = some (.int .i64 a0_3) := (blk_cell BK342.out 3).trans rfl
          have hcz19_4 : wr.cell? ⟨gb342, 4, none⟩ = some (.int .i64 a0_4) := (blk_cell BK342.out 4).trans rfl
          have hfz19_0 := blk_frozen BK342.out 0
          have hfz19_1 := blk_frozen BK342.out 1
          have hfz19_2 := blk_frozen BK342.out 2
          have hfz19_3 := blk_frozen BK342.out 3
          have hfz19_4 := blk_frozen BK342.out 4
          go_wp2_with (first | ((with_reducible refine gate_callee (f := 16) rfl ?_); refine goesL_ (some 48) rfl rfl Try.func16 (by kernel_rfl) rfl #[.int .i64 ((rd_T70 ((rd_T50 l4 x14_1).f0) x15_2).f0), .int .i64 a0_2, .int .i64 a0_3, .int .i64 a1] rfl (by (try simp only [List.map_toArray, List.map_cons, List.map_nil]); first | done | rfl | (simp only [List.length_drop, List.length_take]; rfl)) ?_; (with_reducible refine (ebbtideref13_Closed.calls ((rd_T70 ((rd_T50 l4 x14_1).f0) x15_2).f0) a0_2 a0_3 a1 true _ A12.out).mono ?_); rintro e w' ⟨rfl, ⟨nd, rfl⟩⟩; refine ⟨_, rfl, ?_⟩) | (go_at_call 29; (with_reducible refine (ebbtideref17_out.calls k2 _ _ l2 ((rd_T70 ((rd_T50 l4 x14_1).f0) x15_2).f0) false _ ?side1 ?side2 A14.out).mono ?_); (case side1 => repeat (first | exact (Kd.C_below HR2.out (by repeat (first | (with_reducible first | exact HB.out | apply below_alloc | apply pw_below_drewN | apply below_drew1 | refine below_set ?_ GE342.out) | exact HB.out))) | (with_reducible refine Kd.C_alloc ?_ _) | (with_reducible refine Kd.C_drewN ?_ _) | (with_reducible refine Kd.C_drew ?_))); (case side2 => exact HC2.out); rintro e w' ⟨rfl, ⟨nd, rfl⟩⟩) | (go_at_call 17; (with_reducible refine (ebbtideref14_Waits.calls k2 ((rd_T70 ((rd_T50 l4 x14_1).f0) x15_2).f0) _ _ l3 true _ ?side1 ?side2 A17.out).mono ?_); (case side1 => repeat (first | exact (Kd.C_below HR3.out (by repeat (first | (with_reducible first | exact HB.out | apply below_alloc | apply pw_below_drewN | apply below_drew1 | refine below_set ?_ GE342.out) | exact HB.out))) | (with_reducible refine Kd.C_alloc ?_ _) | (with_reducible refine Kd.C_drewN ?_ _) | (with_reducible refine Kd.C_drew ?_))); (case side2 => exact HC3.out); rintro e w' ⟨rfl, ⟨nd, rfl⟩⟩))
          go_roundg k2
          case measure => have := HK1.out; have := HK2.out; omega
          case rel => exact ⟨(x12_2), (x13_2), (wrap64 (x15_2 + 1)), (by first | rfl | (simp; done) | (simp [*]; done)), (by first | rfl | (simp; done) | (simp [*]; done)), (by first | rfl | (simp; done) | (simp [*]; done)), H', ⟨by have := HK1.out; have := HK2.out; omega⟩, ⟨by exact uB <| BK342.out⟩, ⟨by repeat (first | (with_reducible first | exact HB.out | apply below_alloc | apply pw_below_drewN | apply below_drew1 | refine below_set ?_ GE342.out) | exact HB.out)⟩⟩
         ·
          replace c18 := Bool.eq_false_iff.mpr c18
          subst c18
          rw [if_neg (show ¬ (false = true) by decide)] at H
          by_cases c20 : x13_2 = true
          ·
           subst c20
           rw [if_pos rfl] at H
           by_cases c21 : ((rd_T70 ((rd_T50 l4 x14_1).f0) x15_2).f0) < x12_2
           ·
            rw [if_pos c21] at H
            have c21b0 : decide (((rd_T70 ((rd_T50 l4 x14_1).f0) x15_2).f0) < x12_2) = true := decide_eq_true c21
            clear c21
            have H' := Aside0.mk H
            clear H
            have p343 : 0 ≤ (x14_1 : Int) := od
            have q343 : x14_1 < (l4.length : Int) := od
            obtain ⟨ad343, A343_0, c343_0, e343, hx343_0, hl343_0, hi343_0⟩ := at_T50 HR4.out x14_1 p343 q343
            cases e343
            replace hx343_0 := kc HB hx343_0
            have HR343_0 := Aside0.mk hi343_0
            have HC343_0 := Aside0.mk hl343_0
            clear hi343_0 hl343_0
            replace p343 := eq_true p343
            replace q343 := eq_true q343
            have p344 : 0 ≤ (x14_1 : Int) := od
            have q344 : x14_1 < (l4.length : Int) := od
            obtain ⟨ad344, A344_0, c344_0, e344, hx344_0, hl344_0, hi344_0⟩ := at_T50 HR4.out x14_1 p344 q344
            obtain rfl : ad343 = ad344 := (by injection e344)
            replace hx344_0 := kc HB hx344_0
            have HR344_0 := Aside0.mk hi344_0
            have HC344_0 := Aside0.mk hl344_0
            clear hi344_0 hl344_0
            replace p344 := eq_true p344
            replace q344 := eq_true q344
            have ea_ := Option.some.inj (hx343_0.symm.trans hx344_0)
            injection ea_ with ea_ en_ ec_
            subst ea_
            subst ec_
            clear en_
            have p345 : 0 ≤ (x15_2 : Int) := od
            have q345 : x15_2 < (((rd_T50 l4 x14_1).f0).length : Int) := od
            obtain ⟨ad345, A345_2, c345_2, e345, hx345_0, hx345_1, hx345_2, hl345_2, hi345_2⟩ := at_T70 HR344_0.out x15_2 p345 q345
            cases e345
            replace hx345_0 := kc HB hx345_0
            replace hx345_1 := kc HB hx345_1
            replace hx345_2 := kc HB hx345_2
            have HR345_2 := Aside0.mk hi345_2
            have HC345_2 := Aside0.mk hl345_2
            clear hi345_2 hl345_2
            replace p345 := eq_true p345
            replace q345 := eq_true q345
            have hcz22_0 : wr.cell? ⟨gb342, 0, none⟩ = some (.int .i64 a0_0) := (blk_cell BK342.out 0).trans rfl
            have hcz22_1 : wr.cell? ⟨gb342, 1, none⟩ = some (.int .i64 a0_1) := (blk_cell BK342.out 1).trans rfl
            have hcz22_2 : wr.cell? ⟨gb342, 2, none⟩ = some (.int .i64 a0_2) := (blk_cell BK342.out 2).trans rfl
            have hcz22_3 : wr.cell? ⟨gb342, 3, none⟩ = some (.int .i64 a0_3) := (blk_cell BK342.out 3).trans rfl
            have hcz22_4 : wr.cell? ⟨gb342, 4, none⟩ = some (.int .i64 a0_4) := (blk_cell BK342.out 4).trans rfl
            have hfz22_0 := blk_frozen BK342.out 0
            have hfz22_1 := blk_frozen BK342.out 1
            have hfz22_2 := blk_frozen BK342.out 2
            have hfz22_3 := blk_frozen BK342.out 3
            have hfz22_4 := blk_frozen BK342.out 4
            go_wp2_with (first | ((with_reducible refine gate_callee (f := 16) rfl ?_); refine goesL_ (some 48) rfl rfl Try.func16 (by kernel_rfl) rfl #[.int .i64 ((rd_T70 ((rd_T50 l4 x14_1).f0) x15_2).f0), .int .i64 a0_2, .int .i64 a0_3, .int .i64 a1] rfl (by (try simp only [List.map_toArray, List.map_cons, List.map_nil]); first | done | rfl | (simp only [List.length_drop, List.length_take]; rfl)) ?_; (with_reducible refine (ebbtideref13_Closed.calls ((rd_T70 ((rd_T50 l4 x14_1).f0) x15_2).f0) a0_2 a0_3 a1 true _ A12.out).mono ?_); rintro e w' ⟨rfl, ⟨nd, rfl⟩⟩; refine ⟨_, rfl, ?_⟩) | (go_at_call 29; (with_reducible refine (ebbtideref17_out.calls k2 _ _ l2 ((rd_T70 ((rd_T50 l4 x14_1).f0) x15_2).f0) false _ ?side1 ?side2 A14.out).mono ?_); (case side1 => repeat (first | exact (Kd.C_below HR2.out (by repeat (first | (with_reducible first | exact HB.out | apply below_alloc | apply pw_below_drewN | apply below_drew1 | refine below_set ?_ GE342.out) | exact HB.out))) | (with_reducible refine Kd.C_alloc ?_ _) | (with_reducible refine Kd.C_drewN ?_ _) | (with_reducible refine Kd.C_drew ?_))); (case side2 => exact HC2.out); rintro e w' ⟨rfl, ⟨nd, rfl⟩⟩) | (go_at_call 17; (with_reducible refine (ebbtideref14_Waits.calls k2 ((rd_T70 ((rd_T50 l4 x14_1).f0) x15_2).f0) _ _ l3 false _ ?side1 ?side2 A17.out).mono ?_); (case side1 => repeat (first | exact (Kd.C_below HR3.out (by repeat (first | (with_reducible first | exact HB.out | apply below_alloc | apply pw_below_drewN | apply below_drew1 | refine below_set ?_ GE342.out) | exact HB.out))) | (with_reducible refine Kd.C_alloc ?_ _) | (with_reducible refine Kd.C_drewN ?_ _) | (with_reducible refine Kd.C_drew ?_))); (case side2 => exact HC3.out); rintro e w' ⟨rfl, ⟨nd, rfl⟩⟩))
            go_roundg k2
            case measure => have := HK1.out; have := HK2.out; omega
            case rel => exact ⟨((rd_T70 ((rd_T50 l4 x14_1).f0) x15_2).f0), (true), (wrap64 (x15_2 + 1)), (by first | rfl | (simp; done) | (simp [*]; done)), (by first | rfl | (simp; done) | (simp [*]; done)), (by first | rfl | (simp; done) | (simp [*]; done)), H', ⟨by have := HK1.out; have := HK2.out; omega⟩, ⟨by exact uB <| BK342.out⟩, ⟨by repeat (first | (with_reducible first | exact HB.out | apply below_alloc | apply pw_below_drewN | apply below_drew1 | refine below_set ?_ GE342.out) | exact HB.out)⟩⟩
           ·
            rw [if_neg c21] at H
            have c21b0 : decide (((rd_T70 ((rd_T50 l4 x14_1).f0) x15_2).f0) < x12_2) = false := decide_eq_false c21
            clear c21
            have H' := Aside0.mk H
            clear H
            have p343 : 0 ≤ (x14_1 : Int) := od
            have q343 : x14_1 < (l4.length : Int) := od
            obtain ⟨ad343, A343_0, c343_0, e343, hx343_0, hl343_0, hi343_0⟩ := at_T50 HR4.out x14_1 p343 q343
            cases e343
            replace hx343_0 := kc HB hx343_0
            have HR343_0 := Aside0.mk hi343_0
            have HC343_0 := Aside0.mk hl343_0
            clear hi343_0 hl343_0
            replace p343 := eq_true p343
            replace q343 := eq_true q343
            have p344 : 0 ≤ (x14_1 : Int) := od
            have q344 : x14_1 < (l4.length : Int) := od
            obtain ⟨ad344, A344_0, c344_0, e344, hx344_0, hl344_0, hi344_0⟩ := at_T50 HR4.out x14_1 p344 q344
            obtain rfl : ad343 = ad344 := (by injection e344)
            replace hx344_0 := kc HB hx344_0
            have HR344_0 := Aside0.mk hi344_0
            have HC344_0 := Aside0.mk hl344_0
            clear hi344_0 hl344_0
            replace p344 := eq_true p344
            replace q344 := eq_true q344
            have ea_ := Option.some.inj (hx343_0.symm.trans hx344_0)
            injection ea_ with ea_ en_ ec_
            subst ea_
            subst ec_
            clear en_
            have p345 : 0 ≤ (x15_2 : Int) := od
            have q345 : x15_2 < (((rd_T50 l4 x14_1).f0).length : Int) := od
            obtain ⟨ad345, A345_2, c345_2, e345, hx345_0, hx345_1, hx345_2, hl345_2, hi345_2⟩ := at_T70 HR344_0.out x15_2 p345 q345
            cases e345
            replace hx345_0 := kc HB hx345_0
            replace hx345_1 := kc HB hx345_1
            replace hx345_2 := kc HB hx345_2
            have HR345_2 := Aside0.mk hi345_2
            have HC345_2 := Aside0.mk hl345_2
            clear hi345_2 hl345_2
            replace p345 := eq_true p345
            replace q345 := eq_true q345
            have hcz23_0 : wr.cell? ⟨gb342, 0, none⟩ = some (.int .i64 a0_0) := (blk_cell BK342.out 0).trans rfl
            have hcz23_1 : wr.cell? ⟨gb342, 1, none⟩ = some (.int .i64 a0_1) := (blk_cell BK342.out 1).trans rfl
            have hcz23_2 : wr.cell? ⟨gb342, 2, none⟩ = some (.int .i64 a0_2) := (blk_cell BK342.out 2).trans rfl
            have hcz23_3 : wr.cell? ⟨gb342, 3, none⟩ = some (.int .i64 a0_3) := (blk_cell BK342.out 3).trans rfl
            have hcz23_4 : wr.cell? ⟨gb342, 4, none⟩ = some (.int .i64 a0_4) := (blk_cell BK342.out 4).trans rfl
            have hfz23_0 := blk_frozen BK342.out 0
            have hfz23_1 := blk_frozen BK342.out 1
            have hfz23_2 := blk_frozen BK342.out 2
            have hfz23_3 := blk_frozen BK342.out 3
            have hfz23_4 := blk_frozen BK342.out 4
            go_wp2_with (first | ((with_reducible refine gate_callee (f := 16) rfl ?_); refine goesL_ (some 48) rfl rfl Try.func16 (by kernel_rfl) rfl #[.int .i64 ((rd_T70 ((rd_T50 l4 x14_1).f0) x15_2).f0), .int .i64 a0_2, .int .i64 a0_3, .int .i64 a1] rfl (by (try simp only [List.map_toArray, List.map_cons, List.map_nil]); first | done | rfl | (simp only [List.length_drop, List.length_take]; rfl)) ?_; (with_reducible refine (ebbtideref13_Closed.calls ((rd_T70 ((rd_T50 l4 x14_1).f0) x15_2).f0) a0_2 a0_3 a1 true _ A12.out).mono ?_); rintro e w' ⟨rfl, ⟨nd, rfl⟩⟩; refine ⟨_, rfl, ?_⟩) | (go_at_call 29; (with_reducible refine (ebbtideref17_out.calls k2 _ _ l2 ((rd_T70 ((rd_T50 l4 x14_1).f0) x15_2).f0) false _ ?side1 ?side2 A14.out).mono ?_); (case side1 => repeat (first | exact (Kd.C_below HR2.out (by repeat (first | (with_reducible first | exact HB.out | apply below_alloc | apply pw_below_drewN | apply below_drew1 | refine below_set ?_ GE342.out) | exact HB.out))) | (with_reducible refine Kd.C_alloc ?_ _) | (with_reducible refine Kd.C_drewN ?_ _) | (with_reducible refine Kd.C_drew ?_))); (case side2 => exact HC2.out); rintro e w' ⟨rfl, ⟨nd, rfl⟩⟩) | (go_at_call 17; (with_reducible refine (ebbtideref14_Waits.calls k2 ((rd_T70 ((rd_T50 l4 x14_1).f0) x15_2).f0) _ _ l3 false _ ?side1 ?side2 A17.out).mono ?_); (case side1 => repeat (first | exact (Kd.C_below HR3.out (by repeat (first | (with_reducible first | exact HB.out | apply below_alloc | apply pw_below_drewN | apply below_drew1 | refine below_set ?_ GE342.out) | exact HB.out))) | (with_reducible refine Kd.C_alloc ?_ _) | (with_reducible refine Kd.C_drewN ?_ _) | (with_reducible refine Kd.C_drew ?_))); (case side2 => exact HC3.out); rintro e w' ⟨rfl, ⟨nd, rfl⟩⟩))
            go_roundg k2
            case measure => have := HK1.out; have := HK2.out; omega
            case rel => exact ⟨(x12_2), (true), (wrap64 (x15_2 + 1)), (by first | rfl | (simp; done) | (simp [*]; done)), (by first | rfl | (simp; done) | (simp [*]; done)), (by first | rfl | (simp; done) | (simp [*]; done)), H', ⟨by have := HK1.out; have := HK2.out; omega⟩, ⟨by exact uB <| BK342.out⟩, ⟨by repeat (first | (with_reducible first | exact HB.out | apply below_alloc | apply pw_below_drewN | apply below_drew1 | refine below_set ?_ GE342.out) | exact HB.out)⟩⟩
          ·
           replace c20 := Bool.eq_false_iff.mpr c20
           subst c20
           rw [if_neg (show ¬ (false = true) by decide)] at H
           have H' := Aside0.mk H
           clear H
           have p343 : 0 ≤ (x14_1 : Int) := od
           have q343 : x14_1 < (l4.length : Int) := od
           obtain ⟨ad343, A343_0, c343_0, e343, hx343_0, hl343_0, hi343_0⟩ := at_T50 HR4.out x14_1 p343 q343
           cases e343
           replace hx343_0 := kc HB hx343_0
           have HR343_0 := Aside0.mk hi343_0
           have HC343_0 := Aside0.mk hl343_0
           clear hi343_0 hl343_0
           replace p343 := eq_true p343
           replace q343 := eq_true q343
           have p344 : 0 ≤ (x14_1 : Int) := od
           have q344 : x14_1 < (l4.length : Int) := od
           obtain ⟨ad344, A344_0, c344_0, e344, hx344_0, hl344_0, hi344_0⟩ := at_T50 HR4.out x14_1 p344 q344
           obtain rfl : ad343 = ad344 := (by injection e344)
           replace hx344_0 := kc HB hx344_0
           have HR344_0 := Aside0.mk hi344_0
           have HC344_0 := Aside0.mk hl344_0
           clear hi344_0 hl344_0
           replace p344 := eq_true p344
           replace q344 := eq_true q344
           have ea_ := Option.some.inj (hx343_0.symm.trans hx344_0)
           injection ea_ with ea_ en_ ec_
           subst ea_
           subst ec_
           clear en_
           have p345 : 0 ≤ (x15_2 : Int) := od
           have q345 : x15_2 < (((rd_T50 l4 x14_1).f0).length : Int) := od
           obtain ⟨ad345, A345_2, c345_2, e345, hx345_0, hx345_1, hx345_2, hl345_2, hi345_2⟩ := at_T70 HR344_0.out x15_2 p345 q345
           cases e345
           replace hx345_0 := kc HB hx345_0
           replace hx345_1 := kc HB hx345_1
           replace hx345_2 := kc HB hx345_2
           have HR345_2 := Aside0.mk hi345_2
           have HC345_2 := Aside0.mk hl345_2
           clear hi345_2 hl345_2
           replace p345 := eq_true p345
           replace q345 := eq_true q345
           have hcz24_0 : wr.cell? ⟨gb342, 0, none⟩ = some (.int .i64 a0_0) := (blk_cell BK342.out 0).trans rfl
           have hcz24_1 : wr.cell? ⟨gb342, 1, none⟩ = some (.int .i64 a0_1) := (blk_cell BK342.out 1).trans rfl
           have hcz24_2 : wr.cell? ⟨gb342, 2, none⟩ = some (.int .i64 a0_2) := (blk_cell BK342.out 2).trans rfl
           have hcz24_3 : wr.cell? ⟨gb342, 3, none⟩ = some (.int .i64 a0_3) := (blk_cell BK342.out 3).trans rfl
           have hcz24_4 : wr.cell? ⟨gb342, 4, none⟩ = some (.int .i64 a0_4) := (blk_cell BK342.out 4).trans rfl
           have hfz24_0 := blk_frozen BK342.out 0
           have hfz24_1 := blk_frozen BK342.out 1
           have hfz24_2 := blk_frozen BK342.out 2
           have hfz24_3 := blk_frozen BK342.out 3
           have hfz24_4 := blk_frozen BK342.out 4
           go_wp2_with (first | ((with_reducible refine gate_callee (f := 16) rfl ?_); refine goesL_ (some 48) rfl rfl Try.func16 (by kernel_rfl) rfl #[.int .i64 ((rd_T70 ((rd_T50 l4 x14_1).f0) x15_2).f0), .int .i64 a0_2, .int .i64 a0_3, .int .i64 a1] rfl (by (try simp only [List.map_toArray, List.map_cons, List.map_nil]); first | done | rfl | (simp only [List.length_drop, List.length_take]; rfl)) ?_; (with_reducible refine (ebbtideref13_Closed.calls ((rd_T70 ((rd_T50 l4 x14_1).f0) x15_2).f0) a0_2 a0_3 a1 true _ A12.out).mono ?_); rintro e w' ⟨rfl, ⟨nd, rfl⟩⟩; refine ⟨_, rfl, ?_⟩) | (go_at_call 29; (with_reducible refine (ebbtideref17_out.calls k2 _ _ l2 ((rd_T70 ((rd_T50 l4 x14_1).f0) x15_2).f0) false _ ?side1 ?side2 A14.out).mono ?_); (case side1 => repeat (first | exact (Kd.C_below HR2.out (by repeat (first | (with_reducible first | exact HB.out | apply below_alloc | apply pw_below_drewN | apply below_drew1 | refine below_set ?_ GE342.out) | exact HB.out))) | (with_reducible refine Kd.C_alloc ?_ _) | (with_reducible refine Kd.C_drewN ?_ _) | (with_reducible refine Kd.C_drew ?_))); (case side2 => exact HC2.out); rintro e w' ⟨rfl, ⟨nd, rfl⟩⟩) | (go_at_call 17; (with_reducible refine (ebbtideref14_Waits.calls k2 ((rd_T70 ((rd_T50 l4 x14_1).f0) x15_2).f0) _ _ l3 false _ ?side1 ?side2 A17.out).mono ?_); (case side1 => repeat (first | exact (Kd.C_below HR3.out (by repeat (first | (with_reducible first | exact HB.out | apply below_alloc | apply pw_below_drewN | apply below_drew1 | refine below_set ?_ GE342.out) | exact HB.out))) | (with_reducible refine Kd.C_alloc ?_ _) | (with_reducible refine Kd.C_drewN ?_ _) | (with_reducible refine Kd.C_drew ?_))); (case side2 => exact HC3.out); rintro e w' ⟨rfl, ⟨nd, rfl⟩⟩))
           go_roundg k2
           case measure => have := HK1.out; have := HK2.out; omega
           case rel => exact ⟨((rd_T70 ((rd_T50 l4 x14_1).f0) x15_2).f0), (true), (wrap64 (x15_2 + 1)), (by first | rfl | (simp; done) | (simp [*]; done)), (by first | rfl | (simp; done) | (simp [*]; done)), (by first | rfl | (simp; done) | (simp [*]; done)), H', ⟨by have := HK1.out; have := HK2.out; omega⟩, ⟨by exact uB <| BK342.out⟩, ⟨by repeat (first | (with_reducible first | exact HB.out | apply below_alloc | apply pw_below_drewN | apply below_drew1 | refine below_set ?_ GE342.out) | exact HB.out)⟩⟩
       ·
        replace c13 := Bool.eq_false_iff.mpr c13
        subst c13
        rw [if_neg (show ¬ (false = true) by decide)] at H
        have H' := Aside0.mk H
        clear H
        have p343 : 0 ≤ (x14_1 : Int) := od
        have q343 : x14_1 < (l4.length : Int) := od
        obtain ⟨ad343, A343_0, c343_0, e343, hx343_0, hl343_0, hi343_0⟩ := at_T50 HR4.out x14_1 p343 q343
        cases e343
        replace hx343_0 := kc HB hx343_0
        have HR343_0 := Aside0.mk hi343_0
        have HC343_0 := Aside0.mk hl343_0
        clear hi343_0 hl343_0
        replace p343 := eq_true p343
        replace q343 := eq_true q343
        have p344 : 0 ≤ (x14_1 : Int) := od
        have q344 : x14_1 < (l4.length : Int) := od
        obtain ⟨ad344, A344_0, c344_0, e344, hx344_0, hl344_0, hi344_0⟩ := at_T50 HR4.out x14_1 p344 q344
        obtain rfl : ad343 = ad344 := (by injection e344)
        replace hx344_0 := kc HB hx344_0
        have HR344_0 := Aside0.mk hi344_0
        have HC344_0 := Aside0.mk hl344_0
        clear hi344_0 hl344_0
        replace p344 := eq_true p344
        replace q344 := eq_true q344
        have ea_ := Option.some.inj (hx343_0.symm.trans hx344_0)
        injection ea_ with ea_ en_ ec_
        subst ea_
        subst ec_
        clear en_
        have p345 : 0 ≤ (x15_2 : Int) := od
        have q345 : x15_2 < (((rd_T50 l4 x14_1).f0).length : Int) := od
        obtain ⟨ad345, A345_2, c345_2, e345, hx345_0, hx345_1, hx345_2, hl345_2, hi345_2⟩ := at_T70 HR344_0.out x15_2 p345 q345
        cases e345
        replace hx345_0 := kc HB hx345_0
        replace hx345_1 := kc HB hx345_1
        replace hx345_2 := kc HB hx345_2
        have HR345_2 := Aside0.mk hi345_2
        have HC345_2 := Aside0.mk hl345_2
        clear hi345_2 hl345_2
        replace p345 := eq_true p345
        replace q345 := eq_true q345
        have hcz25_0 : wr.cell? ⟨gb342, 0, none⟩ = some (.int .i64 a0_0) := (blk_cell BK342.out 0).trans rfl
        have hcz25_1 : wr.cell? ⟨gb342, 1, none⟩ = some (.int .i64 a0_1) := (blk_cell BK342.out 1).trans rfl
        have hcz25_2 : wr.cell? ⟨gb342, 2, none⟩ = some (.int .i64 a0_2) := (blk_cell BK342.out 2).trans rfl
        have hcz25_3 : wr.cell? ⟨gb342, 3, none⟩ = some (.int .i64 a0_3) := (blk_cell BK342.out 3).trans rfl
        have hcz25_4 : wr.cell? ⟨gb342, 4, none⟩ = some (.int .i64 a0_4) := (blk_cell BK342.out 4).trans rfl
        have hfz25_0 := blk_frozen BK342.out 0
        have hfz25_1 := blk_frozen BK342.out 1
        have hfz25_2 := blk_frozen BK342.out 2
        have hfz25_3 := blk_frozen BK342.out 3
        have hfz25_4 := blk_frozen BK342.out 4
        go_wp2_with (first | ((with_reducible refine gate_callee (f := 16) rfl ?_); refine goesL_ (some 48) rfl rfl Try.func16 (by kernel_rfl) rfl #[.int .i64 ((rd_T70 ((rd_T50 l4 x14_1).f0) x15_2).f0), .int .i64 a0_2, .int .i64 a0_3, .int .i64 a1] rfl (by (try simp only [List.map_toArray, List.map_cons, List.map_nil]); first | done | rfl | (simp only [List.length_drop, List.length_take]; rfl)) ?_; (with_reducible refine (ebbtideref13_Closed.calls ((rd_T70 ((rd_T50 l4 x14_1).f0) x15_2).f0) a0_2 a0_3 a1 false _ A12.out).mono ?_); rintro e w' ⟨rfl, ⟨nd, rfl⟩⟩; refine ⟨_, rfl, ?_⟩))
        go_roundg k2
        case measure => have := HK1.out; have := HK2.out; omega
        case rel => exact ⟨(x12_2), (x13_2), (wrap64 (x15_2 + 1)), (by first | rfl | (simp; done) | (simp [*]; done)), (by first | rfl | (simp; done) | (simp [*]; done)), (by first | rfl | (simp; done) | (simp [*]; done)), H', ⟨by have := HK1.out; have := HK2.out; omega⟩, ⟨by exact uB <| BK342.out⟩, ⟨by repeat (first | (with_reducible first | exact HB.out | apply below_alloc | apply pw_below_drewN | apply below_drew1 | refine below_set ?_ GE342.out) | exact HB.out)⟩⟩
      ·
       rw [if_neg c10] at H
       have c10b0 : decide (x15_2 < (((rd_T50 l4 x14_1).f0).length : Int)) = false := decide_eq_false c10
       clear c10
       have H' := Aside0.mk H
       clear H
       have p343 : 0 ≤ (x14_1 : Int) := od
       have q343 : x14_1 < (l4.length : Int) := od
       obtain ⟨ad343, A343_0, c343_0, e343, hx343_0, hl343_0, hi343_0⟩ := at_T50 HR4.out x14_1 p343 q343
       cases e343
       replace hx343_0 := kc HB hx343_0
       have HR343_0 := Aside0.mk hi343_0
       have HC343_0 := Aside0.mk hl343_0
       clear hi343_0 hl343_0
       replace p343 := eq_true p343
       replace q343 := eq_true q343
       go_wp2
       go_roundg k2
       case measure => have := HK1.out; have := HK2.out; omega
       case rel => exact ⟨(x12_2), (x13_2), (wrap64 (x14_1 + 1)), (by first | rfl | (simp; done) | (simp [*]; done)), (by first | rfl | (simp; done) | (simp [*]; done)), (by first | rfl | (simp; done) | (simp [*]; done)), H', ⟨by have := HK1.out; have := HK2.out; omega⟩, ⟨by exact uB <| BK342.out⟩, ⟨by repeat (first | (with_reducible first | exact HB.out | apply below_alloc | apply pw_below_drewN | apply below_drew1 | refine below_set ?_ GE342.out) | exact HB.out)⟩⟩
   ·
    rw [if_neg c7] at H
    have c7b0 : decide (x14_1 < (l4.length : Int)) = false := decide_eq_false c7
    clear c7
    simp only [Option.some.injEq, Prod.mk.injEq] at H
    obtain ⟨rfl, rfl⟩ := H
    go_wp2
    go_ret2
    exact ⟨by first | rfl | (simp [errW_none, errW_some] <;> rfl) | (simp [*, errW_none, errW_some] <;> rfl), by repeat (first | (with_reducible first | exact HB.out | apply below_alloc | apply pw_below_drewN | apply below_drew1 | refine below_set ?_ GE342.out) | exact HB.out)⟩

/-! ### ebbtidelaw17_EmitNext: function 3 -/
def ebbtidelaw17_EmitNext.f (k : Nat) (a0_0 : Int) (a0_1 : Int) (a0_2 : Int) (a0_3 : Int) (a0_4 : Int) (a1 : Int) (l2_0 : List (S46)) (l2_1 : List (List (S61))) (l2_2 : List (S50)) : Option (Bool) := (ebbtidelaw17_alive.f k).bind fun t351 => (if t351 = true then ((ebbtidelaw17_great.f k l2_0 l2_1 l2_2).bind fun t352 => (if t352 = true then (some true) else ((emit_Next.f k a0_0 a0_1 a0_2 a0_3 a0_4 a1 l2_0 l2_1 l2_2).bind fun bt353 => ((ebbtideref17_Next.f k a0_0 a0_1 a0_2 a0_3 a0_4 a1 l2_0 l2_1 l2_2).bind fun bt355 => (if bt353.1 = bt355.1 then (some (bt353.2 == bt355.2)) else (none)))))) else (none))
theorem ebbtidelaw17_EmitNext.mono : ∀ a0 a1 a2 a3 a4 a5 a6 a7 a8 k, LeO (ebbtidelaw17_EmitNext.f k a0 a1 a2 a3 a4 a5 a6 a7 a8) (ebbtidelaw17_EmitNext.f (k + 1) a0 a1 a2 a3 a4 a5 a6 a7 a8) := by
 intro a0 a1 a2 a3 a4 a5 a6 a7 a8 k
 unfold ebbtidelaw17_EmitNext.f
 repeat' first
  | (with_reducible exact ebbtidelaw17_alive.mono _)
  | (with_reducible exact ebbtidelaw17_great.mono _ _ _ _)
  | (with_reducible exact ebbtideref17_Next.mono _ _ _ _ _ _ _ _ _ _)
  | (with_reducible exact emit_Next.mono _ _ _ _ _ _ _ _ _ _)
  | (with_reducible exact LeO.refl _)
  | (with_reducible exact LeO.none _)
  | (with_reducible refine LeO.ite ?_ ?_)
  | (with_reducible refine LeO.bind ?_ (fun _ => ?_))
  | exact ebbtidelaw17_alive.mono _
  | exact ebbtidelaw17_great.mono _ _ _ _
  | exact ebbtideref17_Next.mono _ _ _ _ _ _ _ _ _ _
  | exact emit_Next.mono _ _ _ _ _ _ _ _ _ _
  | exact LeO.none _
  | refine LeO.ite ?_ ?_
  | refine LeO.bind ?_ (fun _ => ?_)
set_option maxHeartbeats 8000000 in
set_option maxRecDepth 100000 in
theorem ebbtidelaw17_EmitNext.calls (k : Nat) (a0_0 : Int) (a0_1 : Int) (a0_2 : Int) (a0_3 : Int) (a0_4 : Int) (a1 : Int) (A2_0 : Option Addr) (c2_0 : Nat) (l2_0 : List (S46)) (A2_1 : Option Addr) (c2_1 : Nat) (l2_1 : List (List (S61))) (A2_2 : Option Addr) (c2_2 : Nat) (l2_2 : List (S50)) (r : Bool) (w : World) (hr2_0 : Kd.C k46 w A2_0 l2_0.length l2_0) (hc2_0 : l2_0.length ≤ c2_0) (hr2_1 : Kd.C (Kd.slice 61 k61) w A2_1 l2_1.length l2_1) (hc2_1 : l2_1.length ≤ c2_1) (hr2_2 : Kd.C k50 w A2_2 l2_2.length l2_2) (hc2_2 : l2_2.length ≤ c2_2) (h : ebbtidelaw17_EmitNext.f k a0_0 a0_1 a0_2 a0_3 a0_4 a1 l2_0 l2_1 l2_2 = some r) :
 Calls Try.prog 3 #[.agg #[.int .i64 a0_0, .int .i64 a0_1, .int .i64 a0_2, .int .i64 a0_3, .int .i64 a0_4], .int .i64 a1, .agg #[.slice A2_0 l2_0.length c2_0, .slice A2_1 l2_1.length c2_1, .slice A2_2 l2_2.length c2_2]] w fun e w' => e = .returned (.bool r) ∧ Below w.heap.size w w' := by
 have hu23 := Try.underlying23
 have hu28 := Try.underlying28
 have HR2_0 := Aside0.mk hr2_0
 have HC2_0 := Aside0.mk hc2_0
 clear hr2_0 hc2_0
 have HR2_1 := Aside0.mk hr2_1
 have HC2_1 := Aside0.mk hc2_1
 clear hr2_1 hc2_1
 have HR2_2 := Aside0.mk hr2_2
 have HC2_2 := Aside0.mk hc2_2
 clear hr2_2 hc2_2
 have HB := Aside0.mk (Below.refl w.heap.size w)
 have H : ((ebbtidelaw17_alive.f k).bind fun t351 => (if t351 = true then ((ebbtidelaw17_great.f k l2_0 l2_1 l2_2).bind fun t352 => (if t352 = true then (some true) else ((emit_Next.f k a0_0 a0_1 a0_2 a0_3 a0_4 a1 l2_0 l2_1 l2_2).bind fun bt353 => ((ebbtideref17_Next.f k a0_0 a0_1 a0_2 a0_3 a0_4 a1 l2_0 l2_1 l2_2).bind fun bt355 => (if bt353.1 = bt355.1 then (some (bt353.2 == bt355.2)) else (none)))))) else (none))) = some r := h
 clear h
 replace H := Option.bind_eq_some_iff.mp H
 obtain ⟨t351, A40, H⟩ := H
 replace H : (if t351 = true then ((ebbtidelaw17_great.f k l2_0 l2_1 l2_2).bind fun t352 => (if t352 = true then (some true) else ((emit_Next.f k a0_0 a0_1 a0_2 a0_3 a0_4 a1 l2_0 l2_1 l2_2).bind fun bt353 => ((ebbtideref17_Next.f k a0_0 a0_1 a0_2 a0_3 a0_4 a1 l2_0 l2_1 l2_2).bind fun bt355 => (if bt353.1 = bt355.1 then (some (bt353.2 == bt355.2)) else (none)))))) else (none)) = some r := H
 have A4 := Aside0.mk A40
 clear A40
 by_cases c5 : t351 = true
 ·
  subst c5
  rw [if_pos rfl] at H
  replace H := Option.bind_eq_some_iff.mp H
  obtain ⟨t352, A60, H⟩ := H
  replace H : (if t352 = true then (some true) else ((emit_Next.f k a0_0 a0_1 a0_2 a0_3 a0_4 a1 l2_0 l2_1 l2_2).bind fun bt353 => ((ebbtideref17_Next.f k a0_0 a0_1 a0_2 a0_3 a0_4 a1 l2_0 l2_1 l2_2).bind fun bt355 => (if bt353.1 = bt355.1 then (some (bt353.2 == bt355.2)) else (none))))) = some r := H
  have A6 := Aside0.mk A60
  clear A60
  by_cases c7 : t352 = true
  ·
   subst c7
   rw [if_pos rfl] at H
   obtain rfl := Option.some.inj H
   go_enter Try.func3, Try.ntmps3
   go_wp2_with (first | ((with_reducible refine gate_dst (N := 3) rfl ?_); refine box_event ?hg (N := 3) ?hd (cs := #[.int .i64 a0_0, .int .i64 a0_1, .int .i64 a0_2, .int .i64 a0_3, .int .i64 a0_4]) (t := 23) ?hr ?_; (case hd => rfl); (case hg => rfl); (case hr => first | (go_simp; done) | (go_simp; rfl)); intro gb349 hg w8 hbox hb; have BK349 := Aside0.mk (hbox); have GW349 := Aside0.mk ((by rw [hg]; exact (below_size (uW HB.out)) : w.heap.size ≤ gb349)); have GE349 := Aside0.mk ((by rw [hg]; exact (below_size (uW HB.out)) : w.heap.size ≤ gb349)); replace HB := cW HB hb; clear hb hbox hg) | ((with_reducible refine gate_dst (N := 5) rfl ?_); refine box_event ?hg (N := 5) ?hd (cs := #[.slice A2_0 l2_0.length c2_0, .slice A2_1 l2_1.length c2_1, .slice A2_2 l2_2.length c2_2]) (t := 28) ?hr ?_; (case hd => rfl); (case hg => rfl); (case hr => first | (go_simp; done) | (go_simp; rfl)); intro gb350 hg w9 hbox hb; have BK350 := Aside0.mk (hbox); have GW350 := Aside0.mk ((by rw [hg]; exact (below_size (by repeat (first | (with_reducible first | exact HB.out | apply below_alloc | apply pw_below_drewN | apply below_drew1 | refine below_set ?_ GE349.out) | exact HB.out))) : w.heap.size ≤ gb350)); have GE350 := Aside0.mk ((by rw [hg]; exact (below_size (by repeat (first | (with_reducible first | exact HB.out | apply below_alloc | apply pw_below_drewN | apply below_drew1 | refine below_set ?_ GE349.out) | exact HB.out))) : w.heap.size ≤ gb350)); replace HB := Aside0.mk (below_step (by repeat (first | (with_reducible first | exact HB.out | apply below_alloc | apply pw_below_drewN | apply below_drew1 | refine below_set ?_ GE349.out) | exact HB.out)) hb); have NB349_350 := Aside0.mk ((by rw [hg]; exact Nat.ne_of_lt (blk_lt (g := gb349) (o := .cells #[.int .i64 a0_0, .int .i64 a0_1, .int .i64 a0_2, .int .i64 a0_3, .int .i64 a0_4] 23 (0, 0)) (uB BK349.out)) : gb349 ≠ gb350)); have NB350_349 := Aside0.mk ((by rw [hg]; exact Nat.ne_of_gt (blk_lt (g := gb349) (o := .cells #[.int .i64 a0_0, .int .i64 a0_1, .int .i64 a0_2, .int .i64 a0_3, .int .i64 a0_4] 23 (0, 0)) (uB BK349.out)) : gb350 ≠ gb349)); replace BK349 := cB BK349 hb; clear hb hbox hg) | ((with_reducible refine gate_callee (f := 7) rfl ?_); refine goesL_ (some 11) rfl rfl Try.func7 (by kernel_rfl) rfl #[] rfl (by (try simp only [List.map_toArray, List.map_cons, List.map_nil]); first | done | rfl | (simp only [List.length_drop, List.length_take]; rfl)) ?_; (with_reducible refine (ebbtidelaw17_alive.calls k  true _ A4.out).mono ?_); rintro e w10 ⟨rfl, hb⟩; refine ⟨_, rfl, ?_⟩; replace BK349 := cB BK349 hb; replace BK350 := cB BK350 hb; replace HB := Aside0.mk (below_step (by repeat (first | (with_reducible first | exact HB.out | apply below_alloc | apply pw_below_drewN | apply below_drew1 | refine below_set ?_ GE349.out | refine below_set ?_ GE350.out) | exact HB.out)) hb); (try clear hb); have hnb11 := NB350_349.out; have hnc11 := NB349_350.out; have hcz12_0 : w10.cell? ⟨gb350, 0, none⟩ = some (.slice A2_0 l2_0.length c2_0) := (blk_cell BK350.out 0).trans rfl; have hcz12_1 : w10.cell? ⟨gb350, 1, none⟩ = some (.slice A2_1 l2_1.length c2_1) := (blk_cell BK350.out 1).trans rfl; have hcz12_2 : w10.cell? ⟨gb350, 2, none⟩ = some (.slice A2_2 l2_2.length c2_2) := (blk_cell BK350.out 2).trans rfl; have hfz12_0 := blk_frozen BK350.out 0; have hfz12_1 := blk_frozen BK350.out 1; have hfz12_2 := blk_frozen BK350.out 2) | ((with_reducible refine gate_callee (f := 8) rfl ?_); refine goesL_ (some 14) rfl rfl Try.func8 (by kernel_rfl) rfl #[.agg #[.slice A2_0 l2_0.length c2_0, .slice A2_1 l2_1.length c2_1, .slice A2_2 l2_2.length c2_2]] rfl (by (try simp only [List.map_toArray, List.map_cons, List.map_nil]); first | done | rfl | (simp only [List.length_drop, List.length_take]; rfl)) ?_; (with_reducible refine (ebbtidelaw17_great.calls k _ _ l2_0 _ _ l2_1 _ _ l2_2 true _ ?side1 ?side2 ?side3 ?side4 ?side5 ?side6 A6.out).mono ?_); (case side1 => repeat (first | exact (Kd.C_below HR2_0.out HB.out) | (with_reducible refine Kd.C_alloc ?_ _) | (with_reducible refine Kd.C_drewN ?_ _) | (with_reducible refine Kd.C_drew ?_))); (case side2 => exact HC2_0.out); (case side3 => repeat (first | exact (Kd.C_below HR2_1.out HB.out) | (with_reducible refine Kd.C_alloc ?_ _) | (with_reducible refine Kd.C_drewN ?_ _) | (with_reducible refine Kd.C_drew ?_))); (case side4 => exact HC2_1.out); (case side5 => repeat (first | exact (Kd.C_below HR2_2.out HB.out) | (with_reducible refine Kd.C_alloc ?_ _) | (with_reducible refine Kd.C_drewN ?_ _) | (with_reducible refine Kd.C_drew ?_))); (case side6 => exact HC2_2.out); rintro e w13 ⟨rfl, hb⟩; refine ⟨_, rfl, ?_⟩; replace BK349 := cB BK349 hb; replace BK350 := cB BK350 hb; replace HB := Aside0.mk (below_step (by repeat (first | (with_reducible first | exact HB.out | apply below_alloc | apply pw_below_drewN | apply below_drew1 | refine below_set ?_ GE349.out | refine below_set ?_ GE350.out) | exact HB.out)) hb); (try clear hb)))
   go_ret
   exact ⟨by first | rfl | (simp [errW_none, errW_some] <;> rfl) | (simp [*, errW_none, errW_some] <;> rfl), by repeat (first | (with_reducible first | exact HB.out | apply below_alloc | apply pw_below_drewN | apply below_drew1 | refine below_set ?_ GE349.out | refine below_set ?_ GE350.out) | exact HB.out)⟩
  ·
   replace c7 := Bool.eq_false_iff.mpr c7
   subst c7
   rw [if_neg (show ¬ (false = true) by decide)] at H
   replace H := Option.bind_eq_some_iff.mp H
   obtain ⟨⟨t353, t354⟩, A140, H⟩ := H
   replace H : ((ebbtideref17_Next.f k a0_0 a0_1 a0_2 a0_3 a0_4 a1 l2_0 l2_1 l2_2).bind fun bt355 => (if t353 = bt355.1 then (some (t354 == bt355.2)) else (none))) = some r := H
   have A14 := Aside0.mk A140
   clear A140
   replace H := Option.bind_eq_some_iff.mp H
   obtain ⟨⟨t355, t356⟩, A150, H⟩ := H
   replace H : (if t353 = t355 then (some (t354 == t356)) else (none)) = some r := H
   have A15 := Aside0.mk A150
   clear A150
   obtain ⟨c16, H⟩ := gd H
   have c16b0 : (t353 == t355) = true := beq_iff_eq.mpr c16
   have c16b1 : (t353 != t355) = false := bne_eq_false_iff_eq.mpr c16
   clear c16
   obtain rfl := Option.some.inj H
   go_enter Try.func3, Try.ntmps3
   go_wp2_with (first | ((with_reducible refine gate_dst (N := 3) rfl ?_); refine box_event ?hg (N := 3) ?hd (cs := #[.int .i64 a0_0, .int .i64 a0_1, .int .i64 a0_2, .int .i64 a0_3, .int .i64 a0_4]) (t := 23) ?hr ?_; (case hd => rfl); (case hg => rfl); (case hr => first | (go_simp; done) | (go_simp; rfl)); intro gb349 hg w17 hbox hb; have BK349 := Aside0.mk (hbox); have GW349 := Aside0.mk ((by rw [hg]; exact (below_size (uW HB.out)) : w.heap.size ≤ gb349)); have GE349 := Aside0.mk ((by rw [hg]; exact (below_size (uW HB.out)) : w.heap.size ≤ gb349)); replace HB := cW HB hb; clear hb hbox hg) | ((with_reducible refine gate_dst (N := 5) rfl ?_); refine box_event ?hg (N := 5) ?hd (cs := #[.slice A2_0 l2_0.length c2_0, .slice A2_1 l2_1.length c2_1, .slice A2_2 l2_2.length c2_2]) (t := 28) ?hr ?_; (case hd => rfl); (case hg => rfl); (case hr => first | (go_simp; done) | (go_simp; rfl)); intro gb350 hg w18 hbox hb; have BK350 := Aside0.mk (hbox); have GW350 := Aside0.mk ((by rw [hg]; exact (below_size (by repeat (first | (with_reducible first | exact HB.out | apply below_alloc | apply pw_below_drewN | apply below_drew1 | refine below_set ?_ GE349.out) | exact HB.out))) : w.heap.size ≤ gb350)); have GE350 := Aside0.mk ((by rw [hg]; exact (below_size (by repeat (first | (with_reducible first | exact HB.out | apply below_alloc | apply pw_below_drewN | apply below_drew1 | refine below_set ?_ GE349.out) | exact HB.out))) : w.heap.size ≤ gb350)); replace HB := Aside0.mk (below_step (by repeat (first | (with_reducible first | exact HB.out | apply below_alloc | apply pw_below_drewN | apply below_drew1 | refine below_set ?_ GE349.out) | exact HB.out)) hb); have NB349_350 := Aside0.mk ((by rw [hg]; exact Nat.ne_of_lt (blk_lt (g := gb349) (o := .cells #[.int .i64 a0_0, .int .i64 a0_1, .int .i64 a0_2, .int .i64 a0_3, .int .i64 a0_4] 23 (0, 0)) (uB BK349.out)) : gb349 ≠ gb350)); have NB350_349 := Aside0.mk ((by rw [hg]; exact Nat.ne_of_gt (blk_lt (g := gb349) (o := .cells #[.int .i64 a0_0, .int .i64 a0_1, .int .i64 a0_2, .int .i64 a0_3, .int .i64 a0_4] 23 (0, 0)) (uB BK349.out)) : gb350 ≠ gb349)); replace BK349 := cB BK349 hb; clear hb hbox hg) | ((with_reducible refine gate_callee (f := 7) rfl ?_); refine goesL_ (some 11) rfl rfl Try.func7 (by kernel_rfl) rfl #[] rfl (by (try simp only [List.map_toArray, List.map_cons, List.map_nil]); first | done | rfl | (simp only [List.length_drop, List.length_take]; rfl)) ?_; (with_reducible refine (ebbtidelaw17_alive.calls k  true _ A4.out).mono ?_); rintro e w19 ⟨rfl, hb⟩; refine ⟨_, rfl, ?_⟩; replace BK349 := cB BK349 hb; replace BK350 := cB BK350 hb; replace HB := Aside0.mk (below_step (by repeat (first | (with_reducible first | exact HB.out | apply below_alloc | apply pw_below_drewN | apply below_drew1 | refine below_set ?_ GE349.out | refine below_set ?_ GE350.out) | exact HB.out)) hb); (try clear hb); have hnb20 := NB350_349.out; have hnc20 := NB349_350.out; have hcz21_0 : w19.cell? ⟨gb350, 0, none⟩ = some (.slice A2_0 l2_0.length c2_0) := (blk_cell BK350.out 0).trans rfl; have hcz21_1 : w19.cell? ⟨gb350, 1, none⟩ = some (.slice A2_1 l2_1.length c2_1) := (blk_cell BK350.out 1).trans rfl; have hcz21_2 : w19.cell? ⟨gb350, 2, none⟩ = some (.slice A2_2 l2_2.length c2_2) := (blk_cell BK350.out 2).trans rfl; have hfz21_0 := blk_frozen BK350.out 0; have hfz21_1 := blk_frozen BK350.out 1; have hfz21_2 := blk_frozen BK350.out 2) | ((with_reducible refine gate_callee (f := 8) rfl ?_); refine goesL_ (some 14) rfl rfl Try.func8 (by kernel_rfl) rfl #[.agg #[.slice A2_0 l2_0.length c2_0, .slice A2_1 l2_1.length c2_1, .slice A2_2 l2_2.length c2_2]] rfl (by (try simp only [List.map_toArray, List.map_cons, List.map_nil]); first | done | rfl | (simp only [List.length_drop, List.length_take]; rfl)) ?_; (with_reducible refine (ebbtidelaw17_great.calls k _ _ l2_0 _ _ l2_1 _ _ l2_2 false _ ?side1 ?side2 ?side3 ?side4 ?side5 ?side6 A6.out).mono ?_); (case side1 => repeat (first | exact (Kd.C_below HR2_0.out HB.out) | (with_reducible refine Kd.C_alloc ?_ _) | (with_reducible refine Kd.C_drewN ?_ _) | (with_reducible refine Kd.C_drew ?_))); (case side2 => exact HC2_0.out); (case side3 => repeat (first | exact (Kd.C_below HR2_1.out HB.out) | (with_reducible refine Kd.C_alloc ?_ _) | (with_reducible refine Kd.C_drewN ?_ _) | (with_reducible refine Kd.C_drew ?_))); (case side4 => exact HC2_1.out); (case side5 => repeat (first | exact (Kd.C_below HR2_2.out HB.out) | (with_reducible refine Kd.C_alloc ?_ _) | (with_reducible refine Kd.C_drewN ?_ _) | (with_reducible refine Kd.C_drew ?_))); (case side6 => exact HC2_2.out); rintro e w22 ⟨rfl, hb⟩; refine ⟨_, rfl, ?_⟩; replace BK349 := cB BK349 hb; replace BK350 := cB BK350 hb; replace HB := Aside0.mk (below_step (by repeat (first | (with_reducible first | exact HB.out | apply below_alloc | apply pw_below_drewN | apply below_drew1 | refine below_set ?_ GE349.out | refine below_set ?_ GE350.out) | exact HB.out)) hb); (try clear hb); have hcz23_0 : w22.cell? ⟨gb349, 0, none⟩ = some (.int .i64 a0_0) := (blk_cell BK349.out 0).trans rfl; have hcz23_1 : w22.cell? ⟨gb349, 1, none⟩ = some (.int .i64 a0_1) := (blk_cell BK349.out 1).trans rfl; have hcz23_2 : w22.cell? ⟨gb349, 2, none⟩ = some (.int .i64 a0_2) := (blk_cell BK349.out 2).trans rfl; have hcz23_3 : w22.cell? ⟨gb349, 3, none⟩ = some (.int .i64 a0_3) := (blk_cell BK349.out 3).trans rfl; have hcz23_4 : w22.cell? ⟨gb349, 4, none⟩ = some (.int .i64 a0_4) := (blk_cell BK349.out 4).trans rfl; have hfz23_0 := blk_frozen BK349.out 0; have hfz23_1 := blk_frozen BK349.out 1; have hfz23_2 := blk_frozen BK349.out 2; have hfz23_3 := blk_frozen BK349.out 3; have hfz23_4 := blk_frozen BK349.out 4; have hcz24_0 : w22.cell? ⟨gb350, 0, none⟩ = some (.slice A2_0 l2_0.length c2_0) := (blk_cell BK350.out 0).trans rfl; have hcz24_1 : w22.cell? ⟨gb350, 1, none⟩ = some (.slice A2_1 l2_1.length c2_1) := (blk_cell BK350.out 1).trans rfl; have hcz24_2 : w22.cell? ⟨gb350, 2, none⟩ = some (.slice A2_2 l2_2.length c2_2) := (blk_cell BK350.out 2).trans rfl; have hfz24_0 := blk_frozen BK350.out 0; have hfz24_1 := blk_frozen BK350.out 1; have hfz24_2 := blk_frozen BK350.out 2) | ((with_reducible refine gate_callee (f := 9) rfl ?_); refine goesL_ (some 24) rfl rfl Try.func9 (by kernel_rfl) rfl #[.agg #[.int .i64 a0_0, .int .i64 a0_1, .int .i64 a0_2, .int .i64 a0_3, .int .i64 a0_4], .int .i64 a1, .slice A2_0 l2_0.length c2_0, .slice A2_1 l2_1.length c2_1, .slice A2_2 l2_2.length c2_2] rfl (by (try simp only [List.map_toArray, List.map_cons, List.map_nil]); first | done | rfl | (simp only [List.length_drop, List.length_take]; rfl)) ?_; (with_reducible refine (emit_Next.calls k a0_0 a0_1 a0_2 a0_3 a0_4 a1 _ _ l2_0 _ _ l2_1 _ _ l2_2 t353 t354 _ ?side1 ?side2 ?side3 ?side4 ?side5 ?side6 A14.out).mono ?_); (case side1 => repeat (first | exact (Kd.C_below HR2_0.out HB.out) | (with_reducible refine Kd.C_alloc ?_ _) | (with_reducible refine Kd.C_drewN ?_ _) | (with_reducible refine Kd.C_drew ?_))); (case side2 => exact HC2_0.out); (case side3 => repeat (first | exact (Kd.C_below HR2_1.out HB.out) | (with_reducible refine Kd.C_alloc ?_ _) | (with_reducible refine Kd.C_drewN ?_ _) | (with_reducible refine Kd.C_drew ?_))); (case side4 => exact HC2_1.out); (case side5 => repeat (first | exact (Kd.C_below HR2_2.out HB.out) | (with_reducible refine Kd.C_alloc ?_ _) | (with_reducible refine Kd.C_drewN ?_ _) | (with_reducible refine Kd.C_drew ?_))); (case side6 => exact HC2_2.out); rintro e w25 ⟨rfl, hb⟩; refine ⟨_, rfl, ?_⟩; replace BK349 := cB BK349 hb; replace BK350 := cB BK350 hb; replace HB := Aside0.mk (below_step (by repeat (first | (with_reducible first | exact HB.out | apply below_alloc | apply pw_below_drewN | apply below_drew1 | refine below_set ?_ GE349.out | refine below_set ?_ GE350.out) | exact HB.out)) hb); (try clear hb); have hcz26_0 : w25.cell? ⟨gb349, 0, none⟩ = some (.int .i64 a0_0) := (blk_cell BK349.out 0).trans rfl; have hcz26_1 : w25.cell? ⟨gb349, 1, none⟩ = some (.int .i64 a0_1) := (blk_cell BK349.out 1).trans rfl; have hcz26_2 : w25.cell? ⟨gb349, 2, none⟩ = some (.int .i64 a0_2) := (blk_cell BK349.out 2).trans rfl; have hcz26_3 : w25.cell? ⟨gb349, 3, none⟩ = some (.int .i64 a0_3) := (blk_cell BK349.out 3).trans rfl; have hcz26_4 : w25.cell? ⟨gb349, 4, none⟩ = some (.int .i64 a0_4) := (blk_cell BK349.out 4).trans rfl; have hfz26_0 := blk_frozen BK349.out 0; have hfz26_1 := blk_frozen BK349.out 1; have hfz26_2 := blk_frozen BK349.out 2; have hfz26_3 := blk_frozen BK349.out 3; have hfz26_4 := blk_frozen BK349.out 4; have hcz27_0 : w25.cell? ⟨gb350, 0, none⟩ = some (.slice A2_0 l2_0.length c2_0) := (blk_cell BK350.out 0).trans rfl; have hcz27_1 : w25.cell? ⟨gb350, 1, none⟩ = some (.slice A2_1 l2_1.length c2_1) := (blk_cell BK350.out 1).trans rfl; have hcz27_2 : w25.cell? ⟨gb350, 2, none⟩ = some (.slice A2_2 l2_2.length c2_2) := (blk_cell BK350.out 2).trans rfl; have hfz27_0 := blk_frozen BK350.out 0; have hfz27_1 := blk_frozen BK350.out 1; have hfz27_2 := blk_frozen BK350.out 2) | ((with_reducible refine gate_callee (f := 10) rfl ?_); refine goesL_ (some 36) rfl rfl Try.func10 (by kernel_rfl) rfl #[.agg #[.int .i64 a0_0, .int .i64 a0_1, .int .i64 a0_2, .int .i64 a0_3, .int .i64 a0_4], .int .i64 a1, .slice A2_0 l2_0.length c2_0, .slice A2_1 l2_1.length c2_1, .slice A2_2 l2_2.length c2_2] rfl (by (try simp only [List.map_toArray, List.map_cons, List.map_nil]); first | done | rfl | (simp only [List.length_drop, List.length_take]; rfl)) ?_; (with_reducible refine (ebbtideref17_Next.calls k a0_0 a0_1 a0_2 a0_3 a0_4 a1 _ _ l2_0 _ _ l2_1 _ _ l2_2 t355 t356 _ ?side1 ?side2 ?side3 ?side4 ?side5 ?side6 A15.out).mono ?_); (case side1 => repeat (first | exact (Kd.C_below HR2_0.out HB.out) | (with_reducible refine Kd.C_alloc ?_ _) | (with_reducible refine Kd.C_drewN ?_ _) | (with_reducible refine Kd.C_drew ?_))); (case side2 => exact HC2_0.out); (case side3 => repeat (first | exact (Kd.C_below HR2_1.out HB.out) | (with_reducible refine Kd.C_alloc ?_ _) | (with_reducible refine Kd.C_drewN ?_ _) | (with_reducible refine Kd.C_drew ?_))); (case side4 => exact HC2_1.out); (case side5 => repeat (first | exact (Kd.C_below HR2_2.out HB.out) | (with_reducible refine Kd.C_alloc ?_ _) | (with_reducible refine Kd.C_drewN ?_ _) | (with_reducible refine Kd.C_drew ?_))); (case side6 => exact HC2_2.out); rintro e w28 ⟨rfl, hb⟩; refine ⟨_, rfl, ?_⟩; replace BK349 := cB BK349 hb; replace BK350 := cB BK350 hb; replace HB := Aside0.mk (below_step (by repeat (first | (with_reducible first | exact HB.out | apply below_alloc | apply pw_below_drewN | apply below_drew1 | refine below_set ?_ GE349.out | refine below_set ?_ GE350.out) | exact HB.out)) hb); (try clear hb)))
   go_ret
   exact ⟨by first | rfl | (simp [errW_none, errW_some] <;> rfl) | (simp [*, errW_none, errW_some] <;> rfl), by repeat (first | (with_reducible first | exact HB.out | apply below_alloc | apply pw_below_drewN | apply below_drew1 | refine below_set ?_ GE349.out | refine below_set ?_ GE350.out) | exact HB.out)⟩
 ·
  replace c5 := Bool.eq_false_iff.mpr c5
  subst c5
  rw [if_neg (show ¬ (false = true) by decide)] at H
  exact absurd H (by simp)

/-- What every value of type 23 that is read is like. -/
def Q23 (x : S23) : Prop := ((Lit.int .i64 x.f0).wf = true) ∧ ((Lit.int .i64 x.f1).wf = true) ∧ ((Lit.int .i64 x.f2).wf = true) ∧ ((Lit.int .i64 x.f3).wf = true) ∧ ((Lit.int .i64 x.f4).wf = true)
/-- What every value of type 46 that is read is like. -/
def Q46 (x : S46) : Prop := ((Lit.int .i64 x.f0).wf = true) ∧ ((Lit.int .i64 x.f1).wf = true)
/-- What every value of type 61 that is read is like. -/
def Q61 (x : S61) : Prop := ((Lit.int .i64 x.f0).wf = true) ∧ ((Lit.int .i64 x.f1).wf = true) ∧ (x.f2.size ≤ 140737488351232) ∧ ((Lit.int .i64 x.f3).wf = true)
/-- What every value of type 52 that is read is like. -/
def Q52 (x : S52) : Prop := ((Lit.int .i64 x.f0).wf = true) ∧ (True)
/-- What every value of type 54 that is read is like. -/
def Q54 (x : S54) : Prop := ((Lit.int .i64 x.f0).wf = true) ∧ (Q52 x.f1) ∧ ((Lit.int .i64 x.f2).wf = true) ∧ ((Lit.int .i64 x.f3).wf = true)
/-- What every value of type 96 that is read is like. -/
def Q96 (x : S96) : Prop := ((Lit.int .i64 x.f0).wf = true) ∧ (Q54 x.f1)
/-- What every value of type 70 that is read is like. -/
def Q70 (x : S70) : Prop := ((Lit.int .i64 x.f0).wf = true) ∧ (x.f1.size ≤ 140737488351232) ∧ (x.f2.length ≤ maxLen ∧ ∀ x0_ ∈ x.f2, Q96 x0_)
/-- What every value of type 50 that is read is like. -/
def Q50 (x : S50) : Prop := (x.f0.length ≤ maxLen ∧ ∀ x0_ ∈ x.f0, Q70 x0_)
/-- What every value of type 28 that is read is like. -/
def Q28 (x : S28) : Prop := (x.f0.length ≤ maxLen ∧ ∀ x0_ ∈ x.f0, Q46 x0_) ∧ (x.f1.length ≤ maxLen ∧ ∀ x0_ ∈ x.f1, x0_.length ≤ maxLen ∧ ∀ x1_ ∈ x0_, Q61 x1_) ∧ (x.f2.length ≤ maxLen ∧ ∀ x0_ ∈ x.f2, Q50 x0_)
/-- THE ONE PURE STATEMENT of ebbtidelaw17_EmitNext. -/
def ebbtidelaw17_EmitNext.Pure : Prop := ∀ (x0 : S23) (a1 : Int) (x2 : S28), Q23 x0 → ((Lit.int .i64 a1).wf = true) → Q28 x2 → ∃ k, ebbtidelaw17_EmitNext.f k x0.f0 x0.f1 x0.f2 x0.f3 x0.f4 a1 x2.f0 x2.f1 x2.f2 = some true
theorem ebbtidelaw17_EmitNext.walk (P : ebbtidelaw17_EmitNext.Pure) (x0 : S23) (a1 : Int) (x2 : S28) (w : World) (A2_0 : Option Addr) (c2_0 : Nat) (hr2_0 : Kd.C k46 w A2_0 x2.f0.length x2.f0) (hc2_0 : x2.f0.length ≤ c2_0) (A2_1 : Option Addr) (c2_1 : Nat) (hr2_1 : Kd.C (Kd.slice 61 k61) w A2_1 x2.f1.length x2.f1) (hc2_1 : x2.f1.length ≤ c2_1) (A2_2 : Option Addr) (c2_2 : Nat) (hr2_2 : Kd.C k50 w A2_2 x2.f2.length x2.f2) (hc2_2 : x2.f2.length ≤ c2_2) (q0 : Q23 x0) (q1 : (Lit.int .i64 a1).wf = true) (q2 : Q28 x2) :
 Calls Try.prog 3 #[.agg #[.int .i64 x0.f0, .int .i64 x0.f1, .int .i64 x0.f2, .int .i64 x0.f3, .int .i64 x0.f4], .int .i64 a1, .agg #[.slice A2_0 x2.f0.length c2_0, .slice A2_1 x2.f1.length c2_1, .slice A2_2 x2.f2.length c2_2]] w fun e w' => e = .returned (.bool true) ∧ Below w.heap.size w w' := by
 obtain ⟨k, h⟩ := P x0 a1 x2 q0 q1 q2
 refine (ebbtidelaw17_EmitNext.calls k x0.f0 x0.f1 x0.f2 x0.f3 x0.f4 a1 A2_0 c2_0 x2.f0 A2_1 c2_1 x2.f1 A2_2 c2_2 x2.f2 true w hr2_0 hc2_0 hr2_1 hc2_1 hr2_2 hc2_2 h).mono ?_
 rintro e w' ⟨rfl, hd⟩
 exact ⟨rfl, hd⟩

end Go.Proofs.Ytklhjponikgkkaa.X
