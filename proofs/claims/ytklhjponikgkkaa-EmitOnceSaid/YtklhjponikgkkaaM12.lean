/- Printed by a program of this session's own: what functions of the program compute, and that the machine computes it. No condition of its own. -/
import Derived.Test.YtklhjponikgkkaaM3
import Derived.Test.YtklhjponikgkkaaM4
import Derived.Test.YtklhjponikgkkaaM9
import Derived.Test.YtklhjponikgkkaaM10
import Derived.Test.YtklhjponikgkkaaM11
namespace Go.Proofs.Ytklhjponikgkkaa.X
open Go.RowKit Go.Proofs.YtklhjponikgkkaaW.PrintWords Go.Proofs.YtklhjponikgkkaaW.PrintLast Go.Proofs.YtklhjponikgkkaaW.PrintMore
attribute [local go_sem] max2_int min2_int max_two min_two max_three min_three max_four min_four
set_option linter.unusedVariables false
set_option linter.unusedSimpArgs false
set_option maxHeartbeats 8000000
set_option maxRecDepth 100000
mutual
def ebbtideref17_Next.l0 : Nat → Int → List (S46) → List (List (S61)) → List (S50) → Int → Bool → Int → Int → Int → Int → Int → Int → Option (Int × Bool)
 | 0, _, _, _, _, _, _, _, _, _, _, _, _ => none
 | k + 1, x1, x2, x3, x4, x12, x13, x14, x325000, x325001, x325002, x325003, x325004 => if x14 < (x4.length : Int) then (ebbtideref17_Next.l1 k x1 x2 x3 x4 x12 x13 x14 0 x325000 x325001 x325002 x325003 x325004) else (some (x12, x13))
def ebbtideref17_Next.l1 : Nat → Int → List (S46) → List (List (S61)) → List (S50) → Int → Bool → Int → Int → Int → Int → Int → Int → Int → Option (Int × Bool)
 | 0, _, _, _, _, _, _, _, _, _, _, _, _, _ => none
 | k + 1, x1, x2, x3, x4, x12, x13, x14, x15, x325000, x325001, x325002, x325003, x325004 => if 0 ≤ x14 then (if x14 < (x4.length : Int) then (if x15 < (((rd_T50 x4 x14).f0).length : Int) then (if 0 ≤ x15 then ((ebbtideref13_Closed.f ((rd_T70 ((rd_T50 x4 x14).f0) x15).f0) x325002 x325003 x1).bind fun t328 => (if t328 = true then ((ebbtideref17_out.f k x2 ((rd_T70 ((rd_T50 x4 x14).f0) x15).f0)).bind fun t329 => (if t329 = true then (ebbtideref17_Next.l1 k x1 x2 x3 x4 x12 x13 x14 (wrap64 (x15 + 1)) x325000 x325001 x325002 x325003 x325004) else ((ebbtideref14_Waits.f k ((rd_T70 ((rd_T50 x4 x14).f0) x15).f0) x3).bind fun t330 => (if t330 = true then (ebbtideref17_Next.l1 k x1 x2 x3 x4 x12 x13 x14 (wrap64 (x15 + 1)) x325000 x325001 x325002 x325003 x325004) else (if x13 = true then (if ((rd_T70 ((rd_T50 x4 x14).f0) x15).f0) < x12 then (ebbtideref17_Next.l1 k x1 x2 x3 x4 ((rd_T70 ((rd_T50 x4 x14).f0) x15).f0) true x14 (wrap64 (x15 + 1)) x325000 x325001 x325002 x325003 x325004) else (ebbtideref17_Next.l1 k x1 x2 x3 x4 x12 x13 x14 (wrap64 (x15 + 1)) x325000 x325001 x325002 x325003 x325004)) else (ebbtideref17_Next.l1 k x1 x2 x3 x4 ((rd_T70 ((rd_T50 x4 x14).f0) x15).f0) true x14 (wrap64 (x15 + 1)) x325000 x325001 x325002 x325003 x325004)))))) else (ebbtideref17_Next.l1 k x1 x2 x3 x4 x12 x13 x14 (wrap64 (x15 + 1)) x325000 x325001 x325002 x325003 x325004))) else (none)) else (ebbtideref17_Next.l0 k x1 x2 x3 x4 x12 x13 (wrap64 (x14 + 1)) x325000 x325001 x325002 x325003 x325004)) else (none)) else (none)
end
def ebbtideref17_Next.f (k : Nat) (a0_0 : Int) (a0_1 : Int) (a0_2 : Int) (a0_3 : Int) (a0_4 : Int) (a1 : Int) (l2 : List (S46)) (l3 : List (List (S61))) (l4 : List (S50)) : Option (Int × Bool) := ebbtideref17_Next.l0 k a1 l2 l3 l4 0 false 0 a0_0 a0_1 a0_2 a0_3 a0_4
theorem ebbtideref17_Next.mono_l : ∀ k, (∀ y0 y1 y2 y3 y4 y5 y6 y7 y8 y9 y10 y11, LeC (ebbtideref17_Next.l0 k y0 y1 y2 y3 y4 y5 y6 y7 y8 y9 y10 y11) (ebbtideref17_Next.l0 (k + 1) y0 y1 y2 y3 y4 y5 y6 y7 y8 y9 y10 y11)) ∧ (∀ y0 y1 y2 y3 y4 y5 y6 y7 y8 y9 y10 y11 y12, LeC (ebbtideref17_Next.l1 k y0 y1 y2 y3 y4 y5 y6 y7 y8 y9 y10 y11 y12) (ebbtideref17_Next.l1 (k + 1) y0 y1 y2 y3 y4 y5 y6 y7 y8 y9 y10 y11 y12))
 | 0 => ⟨fun _ _ _ _ _ _ _ _ _ _ _ _ => ⟨fun r h => by simp [ebbtideref17_Next.l0] at h⟩, fun _ _ _ _ _ _ _ _ _ _ _ _ _ => ⟨fun r h => by simp [ebbtideref17_Next.l1] at h⟩⟩
 | k + 1 => by obtain ⟨ih0, ih1⟩ := ebbtideref17_Next.mono_l k; exact ⟨fun _ _ _ _ _ _ _ _ _ _ _ _ => by unfold ebbtideref17_Next.l0; exact lm, fun _ _ _ _ _ _ _ _ _ _ _ _ _ => by unfold ebbtideref17_Next.l1; exact lm⟩
theorem ebbtideref17_Next.mono : ∀ a0 a1 a2 a3 a4 a5 a6 a7 a8 k, LeO (ebbtideref17_Next.f k a0 a1 a2 a3 a4 a5 a6 a7 a8) (ebbtideref17_Next.f (k + 1) a0 a1 a2 a3 a4 a5 a6 a7 a8) := by
 intro a0 a1 a2 a3 a4 a5 a6 a7 a8 k
 obtain ⟨ih0, ih1⟩ := ebbtideref17_Next.mono_l k
 unfold ebbtideref17_Next.f
 exact lo
instance ebbtideref17_Next.mI {a0 a1 a2 a3 a4 a5 a6 a7 a8 k} : LeC (ebbtideref17_Next.f k a0 a1 a2 a3 a4 a5 a6 a7 a8) (ebbtideref17_Next.f (k + 1) a0 a1 a2 a3 a4 a5 a6 a7 a8) := ⟨ebbtideref17_Next.mono _ _ _ _ _ _ _ _ _ _⟩
theorem ebbtideref17_Next.calls (k : Nat) (a0_0 : Int) (a0_1 : Int) (a0_2 : Int) (a0_3 : Int) (a0_4 : Int) (a1 : Int) (A2 : Option Addr) (c2 : Nat) (l2 : List (S46)) (A3 : Option Addr) (c3 : Nat) (l3 : List (List (S61))) (A4 : Option Addr) (c4 : Nat) (l4 : List (S50)) (r1 : Int) (r2 : Bool) (w : World) (hr2 : Kd.C k46 w A2 l2.length l2) (hc2 : l2.length ≤ c2) (hr3 : Kd.C (Kd.slice 61 k61) w A3 l3.length l3) (hc3 : l3.length ≤ c3) (hr4 : Kd.C k50 w A4 l4.length l4) (hc4 : l4.length ≤ c4) (h : ebbtideref17_Next.f k a0_0 a0_1 a0_2 a0_3 a0_4 a1 l2 l3 l4 = some (r1, r2)) :
 Calls Try.prog 10 #[.agg #[.int .i64 a0_0, .int .i64 a0_1, .int .i64 a0_2, .int .i64 a0_3, .int .i64 a0_4], .int .i64 a1, .slice A2 l2.length c2, .slice A3 l3.length c3, .slice A4 l4.length c4] w fun e w' => e = .returned (.tuple #[.int .i64 r1, .bool r2]) ∧ Below w.heap.size w w' := by
 have hu23 := Try.underlying23
 have HR2 := Aside0.mk hr2
 have HC2 := Aside0.mk hc2
 clear hr2 hc2
 have HR3 := Aside0.mk hr3
 have HC3 := Aside0.mk hc3
 clear hr3 hc3
 have HR4 := Aside0.mk hr4
 have HC4 := Aside0.mk hc4
 clear hr4 hc4
 have HB := Aside0.mk (Below.refl w.heap.size w)
 have H : (ebbtideref17_Next.l0 k a1 l2 l3 l4 0 false 0 a0_0 a0_1 a0_2 a0_3 a0_4) = some (r1, r2) := h
 clear h
 have H' := Aside0.mk H
 clear H
 go_enter Try.func10, Try.ntmps10
 go_wp2_with (first | ((with_reducible refine gate_dst (N := 5) rfl ?_); refine bx (N := 5) #[.int .i64 a0_0, .int .i64 a0_1, .int .i64 a0_2, .int .i64 a0_3, .int .i64 a0_4] 23 ?_; intro gb324 hg w6 hbox hb; have BK324 := Aside0.mk (hbox); have GW324 := gw hg (uW HB.out); have GE324 := GW324; replace HB := cW HB hb; clear hb hbox hg))
 go_loopg [12, 13, 14] k (fun kq v12 v13 v14 w' => ∃ (x12_1 : Int) (x13_1 : Bool) (x14_1 : Int), v12 = .int .i64 x12_1 ∧ v13 = .bool x13_1 ∧ v14 = .int .i64 x14_1 ∧ Aside0 (ebbtideref17_Next.l0 kq a1 l2 l3 l4 x12_1 x13_1 x14_1 a0_0 a0_1 a0_2 a0_3 a0_4 = some (r1, r2)) ∧ Aside0 (kq ≤ k) ∧ Aside0 (w'.heap[gb324]? = some (.cells #[.int .i64 a0_0, .int .i64 a0_1, .int .i64 a0_2, .int .i64 a0_3, .int .i64 a0_4] 23 (0, 0))) ∧ Aside0 (Below w.heap.size w w'))
 case atStart => exact ⟨(0), (false), (0), rs_, rs_, rs_, H', ⟨Nat.le_refl _⟩, ⟨uB BK324.out⟩, ⟨bl⟩⟩
 case round =>
  clear H'
  try clear c1
  try clear c2
  try clear p2
  try clear c3
  try clear c4
  obtain ⟨x12_1, x13_1, x14_1, rfl, rfl, rfl, HA, HK1, BK324, HB⟩ := hrel
  cases gk with
  | zero => exact absurd HA.out (by simp [ebbtideref17_Next.l0])
  | succ k1 =>
   have H := HA.out
   clear HA
   simp only [ebbtideref17_Next.l0] at H
   by_cases c7 : x14_1 < (l4.length : Int)
   ·
    rw [if_pos c7] at H
    have c7b0 : decide (x14_1 < (l4.length : Int)) = true := decide_eq_true c7
    clear c7
    have H' := Aside0.mk H
    clear H
    go_wp2
    go_loopg [12, 13, 15] k1 (fun kq v12 v13 v15 w' => ∃ (x12_2 : Int) (x13_2 : Bool) (x15_2 : Int), v12 = .int .i64 x12_2 ∧ v13 = .bool x13_2 ∧ v15 = .int .i64 x15_2 ∧ Aside0 (ebbtideref17_Next.l1 kq a1 l2 l3 l4 x12_2 x13_2 x14_1 x15_2 a0_0 a0_1 a0_2 a0_3 a0_4 = some (r1, r2)) ∧ Aside0 (kq ≤ k1) ∧ Aside0 (w'.heap[gb324]? = some (.cells #[.int .i64 a0_0, .int .i64 a0_1, .int .i64 a0_2, .int .i64 a0_3, .int .i64 a0_4] 23 (0, 0))) ∧ Aside0 (Below w.heap.size w w'))
    case atStart => exact ⟨(x12_1), (x13_1), (0), rs_, rs_, rs_, H', ⟨Nat.le_refl _⟩, ⟨uB BK324.out⟩, ⟨bl⟩⟩
    case round =>
     clear H'
     try clear c1
     try clear c2
     try clear p2
     try clear c3
     try clear c4
     try clear c7
     try clear c7b0
     try clear p2
     obtain ⟨x12_2, x13_2, x15_2, rfl, rfl, rfl, HA, HK2, BK324, HB⟩ := hrel
     cases gk with
     | zero => exact absurd HA.out (by simp [ebbtideref17_Next.l1])
     | succ k2 =>
      have H := HA.out
      clear HA
      simp only [ebbtideref17_Next.l1] at H
      obtain ⟨c8b0, H⟩ := gdd H
      obtain ⟨c9b0, H⟩ := gdd H
      by_cases c10 : x15_2 < (((rd_T50 l4 x14_1).f0).length : Int)
      ·
       rw [if_pos c10] at H
       have c10b0 : decide (x15_2 < (((rd_T50 l4 x14_1).f0).length : Int)) = true := decide_eq_true c10
       clear c10
       obtain ⟨c11b0, H⟩ := gdd H
       obtain ⟨t328, A12, H⟩ := bs H
       try dsimp only at H
       by_cases c13 : t328 = true
       ·
        subst c13
        rw [if_pos rfl] at H
        obtain ⟨t329, A14, H⟩ := bs H
        try dsimp only at H
        by_cases c15 : t329 = true
        ·
         subst c15
         rw [if_pos rfl] at H
         have H' := Aside0.mk H
         clear H
         have p325 : 0 ≤ (x14_1 : Int) := od
         have q325 : x14_1 < (l4.length : Int) := od
         obtain ⟨ad325, A325_0, c325_0, e325, hx325_0, hl325_0, hi325_0⟩ := at_T50 HR4.out x14_1 p325 q325
         cases e325
         replace hx325_0 := kc HB hx325_0
         have HR325_0 := Aside0.mk hi325_0
         have HC325_0 := Aside0.mk hl325_0
         clear hi325_0 hl325_0
         replace p325 := eq_true p325
         replace q325 := eq_true q325
         have p326 : 0 ≤ (x14_1 : Int) := od
         have q326 : x14_1 < (l4.length : Int) := od
         obtain ⟨ad326, A326_0, c326_0, e326, hx326_0, hl326_0, hi326_0⟩ := at_T50 HR4.out x14_1 p326 q326
         obtain rfl : ad325 = ad326 := (by injection e326)
         replace hx326_0 := kc HB hx326_0
         have HR326_0 := Aside0.mk hi326_0
         have HC326_0 := Aside0.mk hl326_0
         clear hi326_0 hl326_0
         replace p326 := eq_true p326
         replace q326 := eq_true q326
         have ea_ := Option.some.inj (hx325_0.symm.trans hx326_0)
         injection ea_ with ea_ en_ ec_
         subst ea_
         subst ec_
         clear en_
         have p327 : 0 ≤ (x15_2 : Int) := od
         have q327 : x15_2 < (((rd_T50 l4 x14_1).f0).length : Int) := od
         obtain ⟨ad327, A327_2, c327_2, e327, hx327_0, hx327_1, hx327_2, hl327_2, hi327_2⟩ := at_T70 HR326_0.out x15_2 p327 q327
         cases e327
         replace hx327_0 := kc HB hx327_0
         replace hx327_1 := kc HB hx327_1
         replace hx327_2 := kc HB hx327_2
         have HR327_2 := Aside0.mk hi327_2
         have HC327_2 := Aside0.mk hl327_2
         clear hi327_2 hl327_2
         replace p327 := eq_true p327
         replace q327 := eq_true q327
         obtain ⟨hcz16_0, hcz16_1, hcz16_2, hcz16_3, hcz16_4, hfz16_0, hfz16_1, hfz16_2, hfz16_3, hfz16_4⟩ := z5 BK324
         go_wp2_with (first | (refine gL (some 48) rfl Try.func16 #[.int .i64 ((rd_T70 ((rd_T50 l4 x14_1).f0) x15_2).f0), .int .i64 a0_2, .int .i64 a0_3, .int .i64 a1] ?_; (with_reducible refine (ebbtideref13_Closed.calls ((rd_T70 ((rd_T50 l4 x14_1).f0) x15_2).f0) a0_2 a0_3 a1 true _ A12.out).mono ?_); rintro e w' ⟨rfl, ⟨nd, rfl⟩⟩; refine ⟨_, rfl, ?_⟩) | (go_at_call 29; (with_reducible refine (ebbtideref17_out.calls k2 _ _ l2 ((rd_T70 ((rd_T50 l4 x14_1).f0) x15_2).f0) true _ ?side1 ?side2 A14.out).mono ?_); (case side1 => exact (Kd.C_below HR2.out bl)); (case side2 => exact HC2.out); rintro e w' ⟨rfl, ⟨nd, rfl⟩⟩))
         go_roundg k2
         case measure => have := HK1.out; have := HK2.out; omega
         case rel => exact ⟨(x12_2), (x13_2), (wrap64 (x15_2 + 1)), rs_, rs_, rs_, H', ⟨by have := HK1.out; have := HK2.out; omega⟩, ⟨uB BK324.out⟩, ⟨bl⟩⟩
        ·
         replace c15 := Bool.eq_false_iff.mpr c15
         subst c15
         rw [if_neg (show ¬ (false = true) by decide)] at H
         obtain ⟨t330, A17, H⟩ := bs H
         try dsimp only at H
         by_cases c18 : t330 = true
         ·
          subst c18
          rw [if_pos rfl] at H
          have H' := Aside0.mk H
          clear H
          have p325 : 0 ≤ (x14_1 : Int) := od
          have q325 : x14_1 < (l4.length : Int) := od
          obtain ⟨ad325, A325_0, c325_0, e325, hx325_0, hl325_0, hi325_0⟩ := at_T50 HR4.out x14_1 p325 q325
          cases e325
          replace hx325_0 := kc HB hx325_0
          have HR325_0 := Aside0.mk hi325_0
          have HC325_0 := Aside0.mk hl325_0
          clear hi325_0 hl325_0
          replace p325 := eq_true p325
          replace q325 := eq_true q325
          have p326 : 0 ≤ (x14_1 : Int) := od
          have q326 : x14_1 < (l4.length : Int) := od
          obtain ⟨ad326, A326_0, c326_0, e326, hx326_0, hl326_0, hi326_0⟩ := at_T50 HR4.out x14_1 p326 q326
          obtain rfl : ad325 = ad326 := (by injection e326)
          replace hx326_0 := kc HB hx326_0
          have HR326_0 := Aside0.mk hi326_0
          have HC326_0 := Aside0.mk hl326_0
          clear hi326_0 hl326_0
          replace p326 := eq_true p326
          replace q326 := eq_true q326
          have ea_ := Option.some.inj (hx325_0.symm.trans hx326_0)
          injection ea_ with ea_ en_ ec_
          subst ea_
          subst ec_
          clear en_
          have p327 : 0 ≤ (x15_2 : Int) := od
          have q327 : x15_2 < (((rd_T50 l4 x14_1).f0).length : Int) := od
          obtain ⟨ad327, A327_2, c327_2, e327, hx327_0, hx327_1, hx327_2, hl327_2, hi327_2⟩ := at_T70 HR326_0.out x15_2 p327 q327
          cases e327
          replace hx327_0 := kc HB hx327_0
          replace hx327_1 := kc HB hx327_1
          replace hx327_2 := kc HB hx327_2
          have HR327_2 := Aside0.mk hi327_2
          have HC327_2 := Aside0.mk hl327_2
          clear hi327_2 hl327_2
          replace p327 := eq_true p327
          replace q327 := eq_true q327
          obtain ⟨hcz19_0, hcz19_1, hcz19_2, hcz19_3, hcz19_4, hfz19_0, hfz19_1, hfz19_2, hfz19_3, hfz19_4⟩ := z5 BK324
          go_wp2_with (first | (refine gL (some 48) rfl Try.func16 #[.int .i64 ((rd_T70 ((rd_T50 l4 x14_1).f0) x15_2).f0), .int .i64 a0_2, .int .i64 a0_3, .int .i64 a1] ?_; (with_reducible refine (ebbtideref13_Closed.calls ((rd_T70 ((rd_T50 l4 x14_1).f0) x15_2).f0) a0_2 a0_3 a1 true _ A12.out).mono ?_); rintro e w' ⟨rfl, ⟨nd, rfl⟩⟩; refine ⟨_, rfl, ?_⟩) | (go_at_call 29; (with_reducible refine (ebbtideref17_out.calls k2 _ _ l2 ((rd_T70 ((rd_T50 l4 x14_1).f0) x15_2).f0) false _ ?side1 ?side2 A14.out).mono ?_); (case side1 => exact (Kd.C_below HR2.out bl)); (case side2 => exact HC2.out); rintro e w' ⟨rfl, ⟨nd, rfl⟩⟩) | (go_at_call 17; (with_reducible refine (ebbtideref14_Waits.calls k2 ((rd_T70 ((rd_T50 l4 x14_1).f0) x15_2).f0) _ _ l3 true _ ?side1 ?side2 A17.out).mono ?_); (case side1 => exact (Kd.C_below HR3.out bl)); (case side2 => exact HC3.out); rintro e w' ⟨rfl, ⟨nd, rfl⟩⟩))
          go_roundg k2
          case measure => have := HK1.out; have := HK2.out; omega
          case rel => exact ⟨(x12_2), (x13_2), (wrap64 (x15_2 + 1)), rs_, rs_, rs_, H', ⟨by have := HK1.out; have := HK2.out; omega⟩, ⟨uB BK324.out⟩, ⟨bl⟩⟩
         ·
          replace c18 := Bool.eq_false_iff.mpr c18
          subst c18
          rw [if_neg (show ¬ (false = true) by decide)] at H
          by_cases c20 : x13_2 = true
          ·
           subst c20
           rw [if_pos rfl] at H
           by_cases c21 : ((rd_T70 ((rd_T50 l4 x14_1).f0) x15_2).f0) < x12_2
           ·
            rw [if_pos c21] at H
            have c21b0 : decide (((rd_T70 ((rd_T50 l4 x14_1).f0) x15_2).f0) < x12_2) = true := decide_eq_true c21
            clear c21
            have H' := Aside0.mk H
            clear H
            have p325 : 0 ≤ (x14_1 : Int) := od
            have q325 : x14_1 < (l4.length : Int) := od
            obtain ⟨ad325, A325_0, c325_0, e325, hx325_0, hl325_0, hi325_0⟩ := at_T50 HR4.out x14_1 p325 q325
            cases e325
            replace hx325_0 := kc HB hx325_0
            have HR325_0 := Aside0.mk hi325_0
            have HC325_0 := Aside0.mk hl325_0
            clear hi325_0 hl325_0
            replace p325 := eq_true p325
            replace q325 := eq_true q325
            have p326 : 0 ≤ (x14_1 : Int) := od
            have q326 : x14_1 < (l4.length : Int) := od
            obtain ⟨ad326, A326_0, c326_0, e326, hx326_0, hl326_0, hi326_0⟩ := at_T50 HR4.out x14_1 p326 q326
            obtain rfl : ad325 = ad326 := (by injection e326)
            replace hx326_0 := kc HB hx326_0
            have HR326_0 := Aside0.mk hi326_0
            have HC326_0 := Aside0.mk hl326_0
            clear hi326_0 hl326_0
            replace p326 := eq_true p326
            replace q326 := eq_true q326
            have ea_ := Option.some.inj (hx325_0.symm.trans hx326_0)
            injection ea_ with ea_ en_ ec_
            subst ea_
            subst ec_
            clear en_
            have p327 : 0 ≤ (x15_2 : Int) := od
            have q327 : x15_2 < (((rd_T50 l4 x14_1).f0).length : Int) := od
            obtain ⟨ad327, A327_2, c327_2, e327, hx327_0, hx327_1, hx327_2, hl327_2, hi327_2⟩ := at_T70 HR326_0.out x15_2 p327 q327
            cases e327
            replace hx327_0 := kc HB hx327_0
            replace hx327_1 := kc HB hx327_1
            replace hx327_2 := kc HB hx327_2
            have HR327_2 := Aside0.mk hi327_2
            have HC327_2 := Aside0.mk hl327_2
            clear hi327_2 hl327_2
            replace p327 := eq_true p327
            replace q327 := eq_true q327
            obtain ⟨hcz22_0, hcz22_1, hcz22_2, hcz22_3, hcz22_4, hfz22_0, hfz22_1, hfz22_2, hfz22_3, hfz22_4⟩ := z5 BK324
            go_wp2_with (first | (refine gL (some 48) rfl Try.func16 #[.int .i64 ((rd_T70 ((rd_T50 l4 x14_1).f0) x15_2).f0), .int .i64 a0_2, .int .i64 a0_3, .int .i64 a1] ?_; (with_reducible refine (ebbtideref13_Closed.calls ((rd_T70 ((rd_T50 l4 x14_1).f0) x15_2).f0) a0_2 a0_3 a1 true _ A12.out).mono ?_); rintro e w' ⟨rfl, ⟨nd, rfl⟩⟩; refine ⟨_, rfl, ?_⟩) | (go_at_call 29; (with_reducible refine (ebbtideref17_out.calls k2 _ _ l2 ((rd_T70 ((rd_T50 l4 x14_1).f0) x15_2).f0) false _ ?side1 ?side2 A14.out).mono ?_); (case side1 => exact (Kd.C_below HR2.out bl)); (case side2 => exact HC2.out); rintro e w' ⟨rfl, ⟨nd, rfl⟩⟩) | (go_at_call 17; (with_reducible refine (ebbtideref14_Waits.calls k2 ((rd_T70 ((rd_T50 l4 x14_1).f0) x15_2).f0) _ _ l3 false _ ?side1 ?side2 A17.out).mono ?_); (case side1 => exact (Kd.C_below HR3.out bl)); (case side2 => exact HC3.out); rintro e w' ⟨rfl, ⟨nd, rfl⟩⟩))
            go_roundg k2
            case measure => have := HK1.out; have := HK2.out; omega
            case rel => exact ⟨((rd_T70 ((rd_T50 l4 x14_1).f0) x15_2).f0), (true), (wrap64 (x15_2 + 1)), rs_, rs_, rs_, H', ⟨by have := HK1.out; have := HK2.out; omega⟩, ⟨uB BK324.out⟩, ⟨bl⟩⟩
           ·
            rw [if_neg c21] at H
            have c21b0 : decide (((rd_T70 ((rd_T50 l4 x14_1).f0) x15_2).f0) < x12_2) = false := decide_eq_false c21
            clear c21
            have H' := Aside0.mk H
            clear H
            have p325 : 0 ≤ (x14_1 : Int) := od
            have q325 : x14_1 < (l4.length : Int) := od
            obtain ⟨ad325, A325_0, c325_0, e325, hx325_0, hl325_0, hi325_0⟩ := at_T50 HR4.out x14_1 p325 q325
            cases e325
            replace hx325_0 := kc HB hx325_0
            have HR325_0 := Aside0.mk hi325_0
            have HC325_0 := Aside0.mk hl325_0
            clear hi325_0 hl325_0
            replace p325 := eq_true p325
            replace q325 := eq_true q325
            have p326 : 0 ≤ (x14_1 : Int) := od
            have q326 : x14_1 < (l4.length : Int) := od
            obtain ⟨ad326, A326_0, c326_0, e326, hx326_0, hl326_0, hi326_0⟩ := at_T50 HR4.out x14_1 p326 q326
            obtain rfl : ad325 = ad326 := (by injection e326)
            replace hx326_0 := kc HB hx326_0
            have HR326_0 := Aside0.mk hi326_0
            have HC326_0 := Aside0.mk hl326_0
            clear hi326_0 hl326_0
            replace p326 := eq_true p326
            replace q326 := eq_true q326
            have ea_ := Option.some.inj (hx325_0.symm.trans hx326_0)
            injection ea_ with ea_ en_ ec_
            subst ea_
            subst ec_
            clear en_
            have p327 : 0 ≤ (x15_2 : Int) := od
            have q327 : x15_2 < (((rd_T50 l4 x14_1).f0).length : Int) := od
            obtain ⟨ad327, A327_2, c327_2, e327, hx327_0, hx327_1, hx327_2, hl327_2, hi327_2⟩ := at_T70 HR326_0.out x15_2 p327 q327
            cases e327
            replace hx327_0 := kc HB hx327_0
            replace hx327_1 := kc HB hx327_1
            replace hx327_2 := kc HB hx327_2
            have HR327_2 := Aside0.mk hi327_2
            have HC327_2 := Aside0.mk hl327_2
            clear hi327_2 hl327_2
            replace p327 := eq_true p327
            replace q327 := eq_true q327
            obtain ⟨hcz23_0, hcz23_1, hcz23_2, hcz23_3, hcz23_4, hfz23_0, hfz23_1, hfz23_2, hfz23_3, hfz23_4⟩ := z5 BK324
            go_wp2_with (first | (refine gL (some 48) rfl Try.func16 #[.int .i64 ((rd_T70 ((rd_T50 l4 x14_1).f0) x15_2).f0), .int .i64 a0_2, .int .i64 a0_3, .int .i64 a1] ?_; (with_reducible refine (ebbtideref13_Closed.calls ((rd_T70 ((rd_T50 l4 x14_1).f0) x15_2).f0) a0_2 a0_3 a1 true _ A12.out).mono ?_); rintro e w' ⟨rfl, ⟨nd, rfl⟩⟩; refine ⟨_, rfl, ?_⟩) | (go_at_call 29; (with_reducible refine (ebbtideref17_out.calls k2 _ _ l2 ((rd_T70 ((rd_T50 l4 x14_1).f0) x15_2).f0) false _ ?side1 ?side2 A14.out).mono ?_); (case side1 => exact (Kd.C_below HR2.out bl)); (case side2 => exact HC2.out); rintro e w' ⟨rfl, ⟨nd, rfl⟩⟩) | (go_at_call 17; (with_reducible refine (ebbtideref14_Waits.calls k2 ((rd_T70 ((rd_T50 l4 x14_1).f0) x15_2).f0) _ _ l3 false _ ?side1 ?side2 A17.out).mono ?_); (case side1 => exact (Kd.C_below HR3.out bl)); (case side2 => exact HC3.out); rintro e w' ⟨rfl, ⟨nd, rfl⟩⟩))
            go_roundg k2
            case measure => have := HK1.out; have := HK2.out; omega
            case rel => exact ⟨(x12_2), (true), (wrap64 (x15_2 + 1)), rs_, rs_, rs_, H', ⟨by have := HK1.out; have := HK2.out; omega⟩, ⟨uB BK324.out⟩, ⟨bl⟩⟩
          ·
           replace c20 := Bool.eq_false_iff.mpr c20
           subst c20
           rw [if_neg (show ¬ (false = true) by decide)] at H
           have H' := Aside0.mk H
           clear H
           have p325 : 0 ≤ (x14_1 : Int) := od
           have q325 : x14_1 < (l4.length : Int) := od
           obtain ⟨ad325, A325_0, c325_0, e325, hx325_0, hl325_0, hi325_0⟩ := at_T50 HR4.out x14_1 p325 q325
           cases e325
           replace hx325_0 := kc HB hx325_0
           have HR325_0 := Aside0.mk hi325_0
           have HC325_0 := Aside0.mk hl325_0
           clear hi325_0 hl325_0
           replace p325 := eq_true p325
           replace q325 := eq_true q325
           have p326 : 0 ≤ (x14_1 : Int) := od
           have q326 : x14_1 < (l4.length : Int) := od
           obtain ⟨ad326, A326_0, c326_0, e326, hx326_0, hl326_0, hi326_0⟩ := at_T50 HR4.out x14_1 p326 q326
           obtain rfl : ad325 = ad326 := (by injection e326)
           replace hx326_0 := kc HB hx326_0
           have HR326_0 := Aside0.mk hi326_0
           have HC326_0 := Aside0.mk hl326_0
           clear hi326_0 hl326_0
           replace p326 := eq_true p326
           replace q326 := eq_true q326
           have ea_ := Option.some.inj (hx325_0.symm.trans hx326_0)
           injection ea_ with ea_ en_ ec_
           subst ea_
           subst ec_
           clear en_
           have p327 : 0 ≤ (x15_2 : Int) := od
           have q327 : x15_2 < (((rd_T50 l4 x14_1).f0).length : Int) := od
           obtain ⟨ad327, A327_2, c327_2, e327, hx327_0, hx327_1, hx327_2, hl327_2, hi327_2⟩ := at_T70 HR326_0.out x15_2 p327 q327
           cases e327
           replace hx327_0 := kc HB hx327_0
           replace hx327_1 := kc HB hx327_1
           replace hx327_2 := kc HB hx327_2
           have HR327_2 := Aside0.mk hi327_2
           have HC327_2 := Aside0.mk hl327_2
           clear hi327_2 hl327_2
           replace p327 := eq_true p327
           replace q327 := eq_true q327
           obtain ⟨hcz24_0, hcz24_1, hcz24_2, hcz24_3, hcz24_4, hfz24_0, hfz24_1, hfz24_2, hfz24_3, hfz24_4⟩ := z5 BK324
           go_wp2_with (first | (refine gL (some 48) rfl Try.func16 #[.int .i64 ((rd_T70 ((rd_T50 l4 x14_1).f0) x15_2).f0), .int .i64 a0_2, .int .i64 a0_3, .int .i64 a1] ?_; (with_reducible refine (ebbtideref13_Closed.calls ((rd_T70 ((rd_T50 l4 x14_1).f0) x15_2).f0) a0_2 a0_3 a1 true _ A12.out).mono ?_); rintro e w' ⟨rfl, ⟨nd, rfl⟩⟩; refine ⟨_, rfl, ?_⟩) | (go_at_call 29; (with_reducible refine (ebbtideref17_out.calls k2 _ _ l2 ((rd_T70 ((rd_T50 l4 x14_1).f0) x15_2).f0) false _ ?side1 ?side2 A14.out).mono ?_); (case side1 => exact (Kd.C_below HR2.out bl)); (case side2 => exact HC2.out); rintro e w' ⟨rfl, ⟨nd, rfl⟩⟩) | (go_at_call 17; (with_reducible refine (ebbtideref14_Waits.calls k2 ((rd_T70 ((rd_T50 l4 x14_1).f0) x15_2).f0) _ _ l3 false _ ?side1 ?side2 A17.out).mono ?_); (case side1 => exact (Kd.C_below HR3.out bl)); (case side2 => exact HC3.out); rintro e w' ⟨rfl, ⟨nd, rfl⟩⟩))
           go_roundg k2
           case measure => have := HK1.out; have := HK2.out; omega
           case rel => exact ⟨((rd_T70 ((rd_T50 l4 x14_1).f0) x15_2).f0), (true), (wrap64 (x15_2 + 1)), rs_, rs_, rs_, H', ⟨by have := HK1.out; have := HK2.out; omega⟩, ⟨uB BK324.out⟩, ⟨bl⟩⟩
       ·
        replace c13 := Bool.eq_false_iff.mpr c13
        subst c13
        rw [if_neg (show ¬ (false = true) by decide)] at H
        have H' := Aside0.mk H
        clear H
        have p325 : 0 ≤ (x14_1 : Int) := od
        have q325 : x14_1 < (l4.length : Int) := od
        obtain ⟨ad325, A325_0, c325_0, e325, hx325_0, hl325_0, hi325_0⟩ := at_T50 HR4.out x14_1 p325 q325
        cases e325
        replace hx325_0 := kc HB hx325_0
        have HR325_0 := Aside0.mk hi325_0
        have HC325_0 := Aside0.mk hl325_0
        clear hi325_0 hl325_0
        replace p325 := eq_true p325
        replace q325 := eq_true q325
        have p326 : 0 ≤ (x14_1 : Int) := od
        have q326 : x14_1 < (l4.length : Int) := od
        obtain ⟨ad326, A326_0, c326_0, e326, hx326_0, hl326_0, hi326_0⟩ := at_T50 HR4.out x14_1 p326 q326
        obtain rfl : ad325 = ad326 := (by injection e326)
        replace hx326_0 := kc HB hx326_0
        have HR326_0 := Aside0.mk hi326_0
        have HC326_0 := Aside0.mk hl326_0
        clear hi326_0 hl326_0
        replace p326 := eq_true p326
        replace q326 := eq_true q326
        have ea_ := Option.some.inj (hx325_0.symm.trans hx326_0)
        injection ea_ with ea_ en_ ec_
        subst ea_
        subst ec_
        clear en_
        have p327 : 0 ≤ (x15_2 : Int) := od
        have q327 : x15_2 < (((rd_T50 l4 x14_1).f0).length : Int) := od
        obtain ⟨ad327, A327_2, c327_2, e327, hx327_0, hx327_1, hx327_2, hl327_2, hi327_2⟩ := at_T70 HR326_0.out x15_2 p327 q327
        cases e327
        replace hx327_0 := kc HB hx327_0
        replace hx327_1 := kc HB hx327_1
        replace hx327_2 := kc HB hx327_2
        have HR327_2 := Aside0.mk hi327_2
        have HC327_2 := Aside0.mk hl327_2
        clear hi327_2 hl327_2
        replace p327 := eq_true p327
        replace q327 := eq_true q327
        obtain ⟨hcz25_0, hcz25_1, hcz25_2, hcz25_3, hcz25_4, hfz25_0, hfz25_1, hfz25_2, hfz25_3, hfz25_4⟩ := z5 BK324
        go_wp2_with (first | (refine gL (some 48) rfl Try.func16 #[.int .i64 ((rd_T70 ((rd_T50 l4 x14_1).f0) x15_2).f0), .int .i64 a0_2, .int .i64 a0_3, .int .i64 a1] ?_; (with_reducible refine (ebbtideref13_Closed.calls ((rd_T70 ((rd_T50 l4 x14_1).f0) x15_2).f0) a0_2 a0_3 a1 false _ A12.out).mono ?_); rintro e w' ⟨rfl, ⟨nd, rfl⟩⟩; refine ⟨_, rfl, ?_⟩))
        go_roundg k2
        case measure => have := HK1.out; have := HK2.out; omega
        case rel => exact ⟨(x12_2), (x13_2), (wrap64 (x15_2 + 1)), rs_, rs_, rs_, H', ⟨by have := HK1.out; have := HK2.out; omega⟩, ⟨uB BK324.out⟩, ⟨bl⟩⟩
      ·
       rw [if_neg c10] at H
       have c10b0 : decide (x15_2 < (((rd_T50 l4 x14_1).f0).length : Int)) = false := decide_eq_false c10
       clear c10
       have H' := Aside0.mk H
       clear H
       have p325 : 0 ≤ (x14_1 : Int) := od
       have q325 : x14_1 < (l4.length : Int) := od
       obtain ⟨ad325, A325_0, c325_0, e325, hx325_0, hl325_0, hi325_0⟩ := at_T50 HR4.out x14_1 p325 q325
       cases e325
       replace hx325_0 := kc HB hx325_0
       have HR325_0 := Aside0.mk hi325_0
       have HC325_0 := Aside0.mk hl325_0
       clear hi325_0 hl325_0
       replace p325 := eq_true p325
       replace q325 := eq_true q325
       go_wp2
       go_roundg k2
       case measure => have := HK1.out; have := HK2.out; omega
       case rel => exact ⟨(x12_2), (x13_2), (wrap64 (x14_1 + 1)), rs_, rs_, rs_, H', ⟨by have := HK1.out; have := HK2.out; omega⟩, ⟨uB BK324.out⟩, ⟨bl⟩⟩
   ·
    rw [if_neg c7] at H
    have c7b0 : decide (x14_1 < (l4.length : Int)) = false := decide_eq_false c7
    clear c7
    simp only [Option.some.injEq, Prod.mk.injEq] at H
    obtain ⟨rfl, rfl⟩ := H
    go_wp2
    go_ret2
    exact ⟨re_, bl⟩
def ebbtidelaw17_EmitNext.f (k : Nat) (a0_0 : Int) (a0_1 : Int) (a0_2 : Int) (a0_3 : Int) (a0_4 : Int) (a1 : Int) (l2_0 : List (S46)) (l2_1 : List (List (S61))) (l2_2 : List (S50)) : Option (Bool) := (ebbtidelaw17_alive.f k).bind fun t333 => (if t333 = true then ((ebbtidelaw17_great.f k l2_0 l2_1 l2_2).bind fun t334 => (if t334 = true then (some true) else ((emit_Next.f k a0_0 a0_1 a0_2 a0_3 a0_4 a1 l2_0 l2_1 l2_2).bind fun bt335 => ((ebbtideref17_Next.f k a0_0 a0_1 a0_2 a0_3 a0_4 a1 l2_0 l2_1 l2_2).bind fun bt337 => (if bt335.1 = bt337.1 then (some (bt335.2 == bt337.2)) else (none)))))) else (none))
theorem ebbtidelaw17_EmitNext.mono : ∀ a0 a1 a2 a3 a4 a5 a6 a7 a8 k, LeO (ebbtidelaw17_EmitNext.f k a0 a1 a2 a3 a4 a5 a6 a7 a8) (ebbtidelaw17_EmitNext.f (k + 1) a0 a1 a2 a3 a4 a5 a6 a7 a8) := by
 intro a0 a1 a2 a3 a4 a5 a6 a7 a8 k
 unfold ebbtidelaw17_EmitNext.f
 exact lo
instance ebbtidelaw17_EmitNext.mI {a0 a1 a2 a3 a4 a5 a6 a7 a8 k} : LeC (ebbtidelaw17_EmitNext.f k a0 a1 a2 a3 a4 a5 a6 a7 a8) (ebbtidelaw17_EmitNext.f (k + 1) a0 a1 a2 a3 a4 a5 a6 a7 a8) := ⟨ebbtidelaw17_EmitNext.mono _ _ _ _ _ _ _ _ _ _⟩
theorem ebbtidelaw17_EmitNext.calls (k : Nat) (a0_0 : Int) (a0_1 : Int) (a0_2 : Int) (a0_3 : Int) (a0_4 : Int) (a1 : Int) (A2_0 : Option Addr) (c2_0 : Nat) (l2_0 : List (S46)) (A2_1 : Option Addr) (c2_1 : Nat) (l2_1 : List (List (S61))) (A2_2 : Option Addr) (c2_2 : Nat) (l2_2 : List (S50)) (r : Bool) (w : World) (hr2_0 : Kd.C k46 w A2_0 l2_0.length l2_0) (hc2_0 : l2_0.length ≤ c2_0) (hr2_1 : Kd.C (Kd.slice 61 k61) w A2_1 l2_1.length l2_1) (hc2_1 : l2_1.length ≤ c2_1) (hr2_2 : Kd.C k50 w A2_2 l2_2.length l2_2) (hc2_2 : l2_2.length ≤ c2_2) (h : ebbtidelaw17_EmitNext.f k a0_0 a0_1 a0_2 a0_3 a0_4 a1 l2_0 l2_1 l2_2 = some r) :
 Calls Try.prog 3 #[.agg #[.int .i64 a0_0, .int .i64 a0_1, .int .i64 a0_2, .int .i64 a0_3, .int .i64 a0_4], .int .i64 a1, .agg #[.slice A2_0 l2_0.length c2_0, .slice A2_1 l2_1.length c2_1, .slice A2_2 l2_2.length c2_2]] w fun e w' => e = .returned (.bool r) ∧ Below w.heap.size w w' := by
 have hu23 := Try.underlying23
 have hu28 := Try.underlying28
 have HR2_0 := Aside0.mk hr2_0
 have HC2_0 := Aside0.mk hc2_0
 clear hr2_0 hc2_0
 have HR2_1 := Aside0.mk hr2_1
 have HC2_1 := Aside0.mk hc2_1
 clear hr2_1 hc2_1
 have HR2_2 := Aside0.mk hr2_2
 have HC2_2 := Aside0.mk hc2_2
 clear hr2_2 hc2_2
 have HB := Aside0.mk (Below.refl w.heap.size w)
 have H : ((ebbtidelaw17_alive.f k).bind fun t333 => (if t333 = true then ((ebbtidelaw17_great.f k l2_0 l2_1 l2_2).bind fun t334 => (if t334 = true then (some true) else ((emit_Next.f k a0_0 a0_1 a0_2 a0_3 a0_4 a1 l2_0 l2_1 l2_2).bind fun bt335 => ((ebbtideref17_Next.f k a0_0 a0_1 a0_2 a0_3 a0_4 a1 l2_0 l2_1 l2_2).bind fun bt337 => (if bt335.1 = bt337.1 then (some (bt335.2 == bt337.2)) else (none)))))) else (none))) = some r := h
 clear h
 obtain ⟨t333, A4, H⟩ := bs H
 try dsimp only at H
 by_cases c5 : t333 = true
 ·
  subst c5
  rw [if_pos rfl] at H
  obtain ⟨t334, A6, H⟩ := bs H
  try dsimp only at H
  by_cases c7 : t334 = true
  ·
   subst c7
   rw [if_pos rfl] at H
   obtain rfl := Option.some.inj H
   go_enter Try.func3, Try.ntmps3
   go_wp2_with (first | ((with_reducible refine gate_dst (N := 3) rfl ?_); refine bx (N := 3) #[.int .i64 a0_0, .int .i64 a0_1, .int .i64 a0_2, .int .i64 a0_3, .int .i64 a0_4] 23 ?_; intro gb331 hg w8 hbox hb; have BK331 := Aside0.mk (hbox); have GW331 := gw hg (uW HB.out); have GE331 := GW331; replace HB := cW HB hb; clear hb hbox hg) | ((with_reducible refine gate_dst (N := 5) rfl ?_); refine bx (N := 5) #[.slice A2_0 l2_0.length c2_0, .slice A2_1 l2_1.length c2_1, .slice A2_2 l2_2.length c2_2] 28 ?_; intro gb332 hg w9 hbox hb; have BK332 := Aside0.mk (hbox); have GW332 := gw hg bl; have GE332 := GW332; replace HB := Aside0.mk (below_step bl hb); have NB331_332 := Aside0.mk ((by rw [hg]; exact Nat.ne_of_lt (blk_lt (g := gb331) (o := .cells #[.int .i64 a0_0, .int .i64 a0_1, .int .i64 a0_2, .int .i64 a0_3, .int .i64 a0_4] 23 (0, 0)) (uB BK331.out)) : gb331 ≠ gb332)); have NB332_331 := Aside0.mk ((by rw [hg]; exact Nat.ne_of_gt (blk_lt (g := gb331) (o := .cells #[.int .i64 a0_0, .int .i64 a0_1, .int .i64 a0_2, .int .i64 a0_3, .int .i64 a0_4] 23 (0, 0)) (uB BK331.out)) : gb332 ≠ gb331)); replace BK331 := cB BK331 hb; clear hb hbox hg) | (refine gL (some 11) rfl Try.func7 #[] ?_; (with_reducible refine (ebbtidelaw17_alive.calls k  true _ A4.out).mono ?_); rintro e w10 ⟨rfl, hb⟩; refine ⟨_, rfl, ?_⟩; replace BK331 := cB BK331 hb; replace BK332 := cB BK332 hb; replace HB := Aside0.mk (below_step bl hb); (try clear hb); have hnb11 := NB332_331.out; have hnc11 := NB331_332.out; obtain ⟨hcz12_0, hcz12_1, hcz12_2, hfz12_0, hfz12_1, hfz12_2⟩ := z3 BK332) | (refine gL (some 14) rfl Try.func8 #[.agg #[.slice A2_0 l2_0.length c2_0, .slice A2_1 l2_1.length c2_1, .slice A2_2 l2_2.length c2_2]] ?_; (with_reducible refine (ebbtidelaw17_great.calls k _ _ l2_0 _ _ l2_1 _ _ l2_2 true _ ?side1 ?side2 ?side3 ?side4 ?side5 ?side6 A6.out).mono ?_); (case side1 => exact uC <| (Kd.C_below HR2_0.out HB.out)); (case side2 => exact HC2_0.out); (case side3 => exact uC <| (Kd.C_below HR2_1.out HB.out)); (case side4 => exact HC2_1.out); (case side5 => exact uC <| (Kd.C_below HR2_2.out HB.out)); (case side6 => exact HC2_2.out); rintro e w13 ⟨rfl, hb⟩; refine ⟨_, rfl, ?_⟩; replace BK331 := cB BK331 hb; replace BK332 := cB BK332 hb; replace HB := Aside0.mk (below_step bl hb); (try clear hb)))
   go_ret
   exact ⟨re_, bl⟩
  ·
   replace c7 := Bool.eq_false_iff.mpr c7
   subst c7
   rw [if_neg (show ¬ (false = true) by decide)] at H
   obtain ⟨⟨t335, t336⟩, A14, H⟩ := bs H
   try dsimp only at H
   obtain ⟨⟨t337, t338⟩, A15, H⟩ := bs H
   try dsimp only at H
   obtain ⟨c16, H⟩ := gd H
   have c16b0 : (t335 == t337) = true := beq_iff_eq.mpr c16
   have c16b1 : (t335 != t337) = false := bne_eq_false_iff_eq.mpr c16
   clear c16
   obtain rfl := Option.some.inj H
   go_enter Try.func3, Try.ntmps3
   go_wp2_with (first | ((with_reducible refine gate_dst (N := 3) rfl ?_); refine bx (N := 3) #[.int .i64 a0_0, .int .i64 a0_1, .int .i64 a0_2, .int .i64 a0_3, .int .i64 a0_4] 23 ?_; intro gb331 hg w17 hbox hb; have BK331 := Aside0.mk (hbox); have GW331 := gw hg (uW HB.out); have GE331 := GW331; replace HB := cW HB hb; clear hb hbox hg) | ((with_reducible refine gate_dst (N := 5) rfl ?_); refine bx (N := 5) #[.slice A2_0 l2_0.length c2_0, .slice A2_1 l2_1.length c2_1, .slice A2_2 l2_2.length c2_2] 28 ?_; intro gb332 hg w18 hbox hb; have BK332 := Aside0.mk (hbox); have GW332 := gw hg bl; have GE332 := GW332; replace HB := Aside0.mk (below_step bl hb); have NB331_332 := Aside0.mk ((by rw [hg]; exact Nat.ne_of_lt (blk_lt (g := gb331) (o := .cells #[.int .i64 a0_0, .int .i64 a0_1, .int .i64 a0_2, .int .i64 a0_3, .int .i64 a0_4] 23 (0, 0)) (uB BK331.out)) : gb331 ≠ gb332)); have NB332_331 := Aside0.mk ((by rw [hg]; exact Nat.ne_of_gt (blk_lt (g := gb331) (o := .cells #[.int .i64 a0_0, .int .i64 a0_1, .int .i64 a0_2, .int .i64 a0_3, .int .i64 a0_4] 23 (0, 0)) (uB BK331.out)) : gb332 ≠ gb331)); replace BK331 := cB BK331 hb; clear hb hbox hg) | (refine gL (some 11) rfl Try.func7 #[] ?_; (with_reducible refine (ebbtidelaw17_alive.calls k  true _ A4.out).mono ?_); rintro e w19 ⟨rfl, hb⟩; refine ⟨_, rfl, ?_⟩; replace BK331 := cB BK331 hb; replace BK332 := cB BK332 hb; replace HB := Aside0.mk (below_step bl hb); (try clear hb); have hnb20 := NB332_331.out; have hnc20 := NB331_332.out; obtain ⟨hcz21_0, hcz21_1, hcz21_2, hfz21_0, hfz21_1, hfz21_2⟩ := z3 BK332) | (refine gL (some 14) rfl Try.func8 #[.agg #[.slice A2_0 l2_0.length c2_0, .slice A2_1 l2_1.length c2_1, .slice A2_2 l2_2.length c2_2]] ?_; (with_reducible refine (ebbtidelaw17_great.calls k _ _ l2_0 _ _ l2_1 _ _ l2_2 false _ ?side1 ?side2 ?side3 ?side4 ?side5 ?side6 A6.out).mono ?_); (case side1 => exact uC <| (Kd.C_below HR2_0.out HB.out)); (case side2 => exact HC2_0.out); (case side3 => exact uC <| (Kd.C_below HR2_1.out HB.out)); (case side4 => exact HC2_1.out); (case side5 => exact uC <| (Kd.C_below HR2_2.out HB.out)); (case side6 => exact HC2_2.out); rintro e w22 ⟨rfl, hb⟩; refine ⟨_, rfl, ?_⟩; replace BK331 := cB BK331 hb; replace BK332 := cB BK332 hb; replace HB := Aside0.mk (below_step bl hb); (try clear hb); obtain ⟨hcz23_0, hcz23_1, hcz23_2, hcz23_3, hcz23_4, hfz23_0, hfz23_1, hfz23_2, hfz23_3, hfz23_4⟩ := z5 BK331; obtain ⟨hcz24_0, hcz24_1, hcz24_2, hfz24_0, hfz24_1, hfz24_2⟩ := z3 BK332) | (refine gL (some 24) rfl Try.func9 #[.agg #[.int .i64 a0_0, .int .i64 a0_1, .int .i64 a0_2, .int .i64 a0_3, .int .i64 a0_4], .int .i64 a1, .slice A2_0 l2_0.length c2_0, .slice A2_1 l2_1.length c2_1, .slice A2_2 l2_2.length c2_2] ?_; (with_reducible refine (emit_Next.calls k a0_0 a0_1 a0_2 a0_3 a0_4 a1 _ _ l2_0 _ _ l2_1 _ _ l2_2 t335 t336 _ ?side1 ?side2 ?side3 ?side4 ?side5 ?side6 A14.out).mono ?_); (case side1 => exact uC <| (Kd.C_below HR2_0.out HB.out)); (case side2 => exact HC2_0.out); (case side3 => exact uC <| (Kd.C_below HR2_1.out HB.out)); (case side4 => exact HC2_1.out); (case side5 => exact uC <| (Kd.C_below HR2_2.out HB.out)); (case side6 => exact HC2_2.out); rintro e w25 ⟨rfl, hb⟩; refine ⟨_, rfl, ?_⟩; replace BK331 := cB BK331 hb; replace BK332 := cB BK332 hb; replace HB := Aside0.mk (below_step bl hb); (try clear hb); obtain ⟨hcz26_0, hcz26_1, hcz26_2, hcz26_3, hcz26_4, hfz26_0, hfz26_1, hfz26_2, hfz26_3, hfz26_4⟩ := z5 BK331; obtain ⟨hcz27_0, hcz27_1, hcz27_2, hfz27_0, hfz27_1, hfz27_2⟩ := z3 BK332) | (refine gL (some 36) rfl Try.func10 #[.agg #[.int .i64 a0_0, .int .i64 a0_1, .int .i64 a0_2, .int .i64 a0_3, .int .i64 a0_4], .int .i64 a1, .slice A2_0 l2_0.length c2_0, .slice A2_1 l2_1.length c2_1, .slice A2_2 l2_2.length c2_2] ?_; (with_reducible refine (ebbtideref17_Next.calls k a0_0 a0_1 a0_2 a0_3 a0_4 a1 _ _ l2_0 _ _ l2_1 _ _ l2_2 t337 t338 _ ?side1 ?side2 ?side3 ?side4 ?side5 ?side6 A15.out).mono ?_); (case side1 => exact uC <| (Kd.C_below HR2_0.out HB.out)); (case side2 => exact HC2_0.out); (case side3 => exact uC <| (Kd.C_below HR2_1.out HB.out)); (case side4 => exact HC2_1.out); (case side5 => exact uC <| (Kd.C_below HR2_2.out HB.out)); (case side6 => exact HC2_2.out); rintro e w28 ⟨rfl, hb⟩; refine ⟨_, rfl, ?_⟩; replace BK331 := cB BK331 hb; replace BK332 := cB BK332 hb; replace HB := Aside0.mk (below_step bl hb); (try clear hb)))
   go_ret
   exact ⟨re_, bl⟩
 ·
  replace c5 := Bool.eq_false_iff.mpr c5
  subst c5
  rw [if_neg (show ¬ (false = true) by decide)] at H
  exact absurd H (by simp)
def ebbtidelaw17_EmitNext.Pure : Prop := ∀ (x0 : S23) (a1 : Int) (x2 : S28), Q23 x0 → ((Lit.int .i64 a1).wf = true) → Q28 x2 → ∃ k, ebbtidelaw17_EmitNext.f k x0.f0 x0.f1 x0.f2 x0.f3 x0.f4 a1 x2.f0 x2.f1 x2.f2 = some true
theorem ebbtidelaw17_EmitNext.walk (P : ebbtidelaw17_EmitNext.Pure) (x0 : S23) (a1 : Int) (x2 : S28) (w : World) (A2_0 : Option Addr) (c2_0 : Nat) (hr2_0 : Kd.C k46 w A2_0 x2.f0.length x2.f0) (hc2_0 : x2.f0.length ≤ c2_0) (A2_1 : Option Addr) (c2_1 : Nat) (hr2_1 : Kd.C (Kd.slice 61 k61) w A2_1 x2.f1.length x2.f1) (hc2_1 : x2.f1.length ≤ c2_1) (A2_2 : Option Addr) (c2_2 : Nat) (hr2_2 : Kd.C k50 w A2_2 x2.f2.length x2.f2) (hc2_2 : x2.f2.length ≤ c2_2) (q0 : Q23 x0) (q1 : (Lit.int .i64 a1).wf = true) (q2 : Q28 x2) :
 Calls Try.prog 3 #[.agg #[.int .i64 x0.f0, .int .i64 x0.f1, .int .i64 x0.f2, .int .i64 x0.f3, .int .i64 x0.f4], .int .i64 a1, .agg #[.slice A2_0 x2.f0.length c2_0, .slice A2_1 x2.f1.length c2_1, .slice A2_2 x2.f2.length c2_2]] w fun e w' => e = .returned (.bool true) ∧ Below w.heap.size w w' := by
 obtain ⟨k, h⟩ := P x0 a1 x2 q0 q1 q2
 refine (ebbtidelaw17_EmitNext.calls k x0.f0 x0.f1 x0.f2 x0.f3 x0.f4 a1 A2_0 c2_0 x2.f0 A2_1 c2_1 x2.f1 A2_2 c2_2 x2.f2 true w hr2_0 hc2_0 hr2_1 hc2_1 hr2_2 hc2_2 h).mono ?_
 rintro e w' ⟨rfl, hd⟩
 exact ⟨rfl, hd⟩
def ebbtidelaw17_EmitOnce.f (k : Nat) (a0_0 : Int) (a0_1 : Int) (a0_2 : Int) (a0_3 : Int) (a0_4 : Int) (a1 : Int) (l2_0 : List (S46)) (l2_1 : List (List (S61))) (l2_2 : List (S50)) : Option (Bool) := (ebbtidelaw17_alive.f k).bind fun t341 => (if t341 = true then ((ebbtidelaw17_great.f k l2_0 l2_1 l2_2).bind fun t342 => (if t342 = true then (some true) else ((emit_Next.f k a0_0 a0_1 a0_2 a0_3 a0_4 a1 l2_0 l2_1 l2_2).bind fun bt343 => (if bt343.2 = true then ((ebbtideref13_Closed.f bt343.1 a0_2 a0_3 a1).bind fun t345 => (if t345 = true then ((ebbtideref14_Waits.f k bt343.1 l2_1).bind fun t346 => (if t346 = true then (none) else ((some (([] : List (S46)) : List (S46))).bind fun y347 => (if y347.length + l2_0.length < 8796093022208 then ((some (y347 ++ l2_0 : List (S46))).bind fun y350 => (if y350.length < 8796093022208 then ((emit_Next.f k a0_0 a0_1 a0_2 a0_3 a0_4 a1 (y350 ++ [(⟨bt343.1, 9⟩ : S46)]) l2_1 l2_2).bind fun bt356 => (if bt356.2 = true then (some (decide (bt356.1 > bt343.1))) else (some true))) else (none))) else (none))))) else (none))) else (some (bt343.1 == 0)))))) else (none))
theorem ebbtidelaw17_EmitOnce.mono : ∀ a0 a1 a2 a3 a4 a5 a6 a7 a8 k, LeO (ebbtidelaw17_EmitOnce.f k a0 a1 a2 a3 a4 a5 a6 a7 a8) (ebbtidelaw17_EmitOnce.f (k + 1) a0 a1 a2 a3 a4 a5 a6 a7 a8) := by
 intro a0 a1 a2 a3 a4 a5 a6 a7 a8 k
 unfold ebbtidelaw17_EmitOnce.f
 exact lo
instance ebbtidelaw17_EmitOnce.mI {a0 a1 a2 a3 a4 a5 a6 a7 a8 k} : LeC (ebbtidelaw17_EmitOnce.f k a0 a1 a2 a3 a4 a5 a6 a7 a8) (ebbtidelaw17_EmitOnce.f (k + 1) a0 a1 a2 a3 a4 a5 a6 a7 a8) := ⟨ebbtidelaw17_EmitOnce.mono _ _ _ _ _ _ _ _ _ _⟩
theorem ebbtidelaw17_EmitOnce.calls (k : Nat) (a0_0 : Int) (a0_1 : Int) (a0_2 : Int) (a0_3 : Int) (a0_4 : Int) (a1 : Int) (A2_0 : Option Addr) (c2_0 : Nat) (l2_0 : List (S46)) (A2_1 : Option Addr) (c2_1 : Nat) (l2_1 : List (List (S61))) (A2_2 : Option Addr) (c2_2 : Nat) (l2_2 : List (S50)) (r : Bool) (w : World) (hr2_0 : Kd.C k46 w A2_0 l2_0.length l2_0) (hc2_0 : l2_0.length ≤ c2_0) (hr2_1 : Kd.C (Kd.slice 61 k61) w A2_1 l2_1.length l2_1) (hc2_1 : l2_1.length ≤ c2_1) (hr2_2 : Kd.C k50 w A2_2 l2_2.length l2_2) (hc2_2 : l2_2.length ≤ c2_2) (h : ebbtidelaw17_EmitOnce.f k a0_0 a0_1 a0_2 a0_3 a0_4 a1 l2_0 l2_1 l2_2 = some r) :
 Calls Try.prog 5 #[.agg #[.int .i64 a0_0, .int .i64 a0_1, .int .i64 a0_2, .int .i64 a0_3, .int .i64 a0_4], .int .i64 a1, .agg #[.slice A2_0 l2_0.length c2_0, .slice A2_1 l2_1.length c2_1, .slice A2_2 l2_2.length c2_2]] w fun e w' => e = .returned (.bool r) ∧ Below w.heap.size w w' := by
 have hu23 := Try.underlying23
 have hu28 := Try.underlying28
 have hu46 := Try.underlying46
 have HR2_0 := Aside0.mk hr2_0
 have HC2_0 := Aside0.mk hc2_0
 clear hr2_0 hc2_0
 have HR2_1 := Aside0.mk hr2_1
 have HC2_1 := Aside0.mk hc2_1
 clear hr2_1 hc2_1
 have HR2_2 := Aside0.mk hr2_2
 have HC2_2 := Aside0.mk hc2_2
 clear hr2_2 hc2_2
 have HB := Aside0.mk (Below.refl w.heap.size w)
 have H : ((ebbtidelaw17_alive.f k).bind fun t341 => (if t341 = true then ((ebbtidelaw17_great.f k l2_0 l2_1 l2_2).bind fun t342 => (if t342 = true then (some true) else ((emit_Next.f k a0_0 a0_1 a0_2 a0_3 a0_4 a1 l2_0 l2_1 l2_2).bind fun bt343 => (if bt343.2 = true then ((ebbtideref13_Closed.f bt343.1 a0_2 a0_3 a1).bind fun t345 => (if t345 = true then ((ebbtideref14_Waits.f k bt343.1 l2_1).bind fun t346 => (if t346 = true then (none) else ((some (([] : List (S46)) : List (S46))).bind fun y347 => (if y347.length + l2_0.length < 8796093022208 then ((some (y347 ++ l2_0 : List (S46))).bind fun y350 => (if y350.length < 8796093022208 then ((emit_Next.f k a0_0 a0_1 a0_2 a0_3 a0_4 a1 (y350 ++ [(⟨bt343.1, 9⟩ : S46)]) l2_1 l2_2).bind fun bt356 => (if bt356.2 = true then (some (decide (bt356.1 > bt343.1))) else (some true))) else (none))) else (none))))) else (none))) else (some (bt343.1 == 0)))))) else (none))) = some r := h
 clear h
 obtain ⟨t341, A4, H⟩ := bs H
 try dsimp only at H
 by_cases c5 : t341 = true
 ·
  subst c5
  rw [if_pos rfl] at H
  obtain ⟨t342, A6, H⟩ := bs H
  try dsimp only at H
  by_cases c7 : t342 = true
  ·
   subst c7
   rw [if_pos rfl] at H
   obtain rfl := Option.some.inj H
   go_enter Try.func5, Try.ntmps5
   go_wp2_with (first | ((with_reducible refine gate_dst (N := 3) rfl ?_); refine bx (N := 3) #[.int .i64 a0_0, .int .i64 a0_1, .int .i64 a0_2, .int .i64 a0_3, .int .i64 a0_4] 23 ?_; intro gb339 hg w8 hbox hb; have BK339 := Aside0.mk (hbox); have GW339 := gw hg (uW HB.out); have GE339 := GW339; replace HB := cW HB hb; clear hb hbox hg) | ((with_reducible refine gate_dst (N := 5) rfl ?_); refine bx (N := 5) #[.slice A2_0 l2_0.length c2_0, .slice A2_1 l2_1.length c2_1, .slice A2_2 l2_2.length c2_2] 28 ?_; intro gb340 hg w9 hbox hb; have BK340 := Aside0.mk (hbox); have GW340 := gw hg bl; have GE340 := GW340; replace HB := Aside0.mk (below_step bl hb); have NB339_340 := Aside0.mk ((by rw [hg]; exact Nat.ne_of_lt (blk_lt (g := gb339) (o := .cells #[.int .i64 a0_0, .int .i64 a0_1, .int .i64 a0_2, .int .i64 a0_3, .int .i64 a0_4] 23 (0, 0)) (uB BK339.out)) : gb339 ≠ gb340)); have NB340_339 := Aside0.mk ((by rw [hg]; exact Nat.ne_of_gt (blk_lt (g := gb339) (o := .cells #[.int .i64 a0_0, .int .i64 a0_1, .int .i64 a0_2, .int .i64 a0_3, .int .i64 a0_4] 23 (0, 0)) (uB BK339.out)) : gb340 ≠ gb339)); replace BK339 := cB BK339 hb; clear hb hbox hg) | (refine gL (some 12) rfl Try.func7 #[] ?_; (with_reducible refine (ebbtidelaw17_alive.calls k  true _ A4.out).mono ?_); rintro e w10 ⟨rfl, hb⟩; refine ⟨_, rfl, ?_⟩; replace BK339 := cB BK339 hb; replace BK340 := cB BK340 hb; replace HB := Aside0.mk (below_step bl hb); (try clear hb); have hnb11 := NB340_339.out; have hnc11 := NB339_340.out; obtain ⟨hcz12_0, hcz12_1, hcz12_2, hfz12_0, hfz12_1, hfz12_2⟩ := z3 BK340) | (refine gL (some 15) rfl Try.func8 #[.agg #[.slice A2_0 l2_0.length c2_0, .slice A2_1 l2_1.length c2_1, .slice A2_2 l2_2.length c2_2]] ?_; (with_reducible refine (ebbtidelaw17_great.calls k _ _ l2_0 _ _ l2_1 _ _ l2_2 true _ ?side1 ?side2 ?side3 ?side4 ?side5 ?side6 A6.out).mono ?_); (case side1 => exact uC <| (Kd.C_below HR2_0.out HB.out)); (case side2 => exact HC2_0.out); (case side3 => exact uC <| (Kd.C_below HR2_1.out HB.out)); (case side4 => exact HC2_1.out); (case side5 => exact uC <| (Kd.C_below HR2_2.out HB.out)); (case side6 => exact HC2_2.out); rintro e w13 ⟨rfl, hb⟩; refine ⟨_, rfl, ?_⟩; replace BK339 := cB BK339 hb; replace BK340 := cB BK340 hb; replace HB := Aside0.mk (below_step bl hb); (try clear hb)))
   go_ret
   exact ⟨re_, bl⟩
  ·
   replace c7 := Bool.eq_false_iff.mpr c7
   subst c7
   rw [if_neg (show ¬ (false = true) by decide)] at H
   obtain ⟨⟨t343, t344⟩, A14, H⟩ := bs H
   try dsimp only at H
   by_cases c15 : t344 = true
   ·
    subst c15
    rw [if_pos rfl] at H
    obtain ⟨t345, A16, H⟩ := bs H
    try dsimp only at H
    by_cases c17 : t345 = true
    ·
     subst c17
     rw [if_pos rfl] at H
     obtain ⟨t346, A18, H⟩ := bs H
     try dsimp only at H
     by_cases c19 : t346 = true
     ·
      subst c19
      rw [if_pos rfl] at H
      exact absurd H (by simp)
     ·
      replace c19 := Bool.eq_false_iff.mpr c19
      subst c19
      rw [if_neg (show ¬ (false = true) by decide)] at H
      obtain ⟨y347, Ny347, H⟩ := ys H
      try dsimp only at H
      obtain ⟨c20, H⟩ := gd H
      have LMc20 := Aside0.mk c20
      clear c20
      obtain ⟨y350, Ny350, H⟩ := ys H
      try dsimp only at H
      obtain ⟨c21, H⟩ := gd H
      have LMc21 := Aside0.mk c21
      clear c21
      obtain ⟨y353, hy353⟩ : ∃ y_ : List (S46), y_ = (y350 ++ [(⟨t343, 9⟩ : S46)]) := ⟨_, rfl⟩
      replace H : ((emit_Next.f k a0_0 a0_1 a0_2 a0_3 a0_4 a1 y353 l2_1 l2_2).bind fun bt356 => (if bt356.2 = true then (some (decide (bt356.1 > t343))) else (some true))) = some r := by first | (rw [hy353]; with_reducible exact H) | (have H2_ := (Option.bind_some _ _).symm.trans H; rw [hy353]; with_reducible exact H2_) | (have H2_ := (Option.bind_some _ _).symm.trans H; with_reducible exact H2_) | with_reducible exact H | (rw [hy353]; exact H) | exact H
      have Ny353 := Aside0.mk hy353
      clear hy353
      obtain ⟨⟨t356, t357⟩, A22, H⟩ := bs H
      try dsimp only at H
      by_cases c23 : t357 = true
      ·
       subst c23
       rw [if_pos rfl] at H
       obtain rfl := Option.some.inj H
       go_enter Try.func5, Try.ntmps5
       go_wp2_with (first | ((with_reducible refine gate_dst (N := 3) rfl ?_); refine bx (N := 3) #[.int .i64 a0_0, .int .i64 a0_1, .int .i64 a0_2, .int .i64 a0_3, .int .i64 a0_4] 23 ?_; intro gb339 hg w24 hbox hb; have BK339 := Aside0.mk (hbox); have GW339 := gw hg (uW HB.out); have GE339 := GW339; replace HB := cW HB hb; clear hb hbox hg) | ((with_reducible refine gate_dst (N := 5) rfl ?_); refine bx (N := 5) #[.slice A2_0 l2_0.length c2_0, .slice A2_1 l2_1.length c2_1, .slice A2_2 l2_2.length c2_2] 28 ?_; intro gb340 hg w25 hbox hb; have BK340 := Aside0.mk (hbox); have GW340 := gw hg bl; have GE340 := GW340; replace HB := Aside0.mk (below_step bl hb); have NB339_340 := Aside0.mk ((by rw [hg]; exact Nat.ne_of_lt (blk_lt (g := gb339) (o := .cells #[.int .i64 a0_0, .int .i64 a0_1, .int .i64 a0_2, .int .i64 a0_3, .int .i64 a0_4] 23 (0, 0)) (uB BK339.out)) : gb339 ≠ gb340)); have NB340_339 := Aside0.mk ((by rw [hg]; exact Nat.ne_of_gt (blk_lt (g := gb339) (o := .cells #[.int .i64 a0_0, .int .i64 a0_1, .int .i64 a0_2, .int .i64 a0_3, .int .i64 a0_4] 23 (0, 0)) (uB BK339.out)) : gb340 ≠ gb339)); replace BK339 := cB BK339 hb; clear hb hbox hg) | (refine gL (some 12) rfl Try.func7 #[] ?_; (with_reducible refine (ebbtidelaw17_alive.calls k  true _ A4.out).mono ?_); rintro e w26 ⟨rfl, hb⟩; refine ⟨_, rfl, ?_⟩; replace BK339 := cB BK339 hb; replace BK340 := cB BK340 hb; replace HB := Aside0.mk (below_step bl hb); (try clear hb); have hnb27 := NB340_339.out; have hnc27 := NB339_340.out; obtain ⟨hcz28_0, hcz28_1, hcz28_2, hfz28_0, hfz28_1, hfz28_2⟩ := z3 BK340) | (refine gL (some 15) rfl Try.func8 #[.agg #[.slice A2_0 l2_0.length c2_0, .slice A2_1 l2_1.length c2_1, .slice A2_2 l2_2.length c2_2]] ?_; (with_reducible refine (ebbtidelaw17_great.calls k _ _ l2_0 _ _ l2_1 _ _ l2_2 false _ ?side1 ?side2 ?side3 ?side4 ?side5 ?side6 A6.out).mono ?_); (case side1 => exact uC <| (Kd.C_below HR2_0.out HB.out)); (case side2 => exact HC2_0.out); (case side3 => exact uC <| (Kd.C_below HR2_1.out HB.out)); (case side4 => exact HC2_1.out); (case side5 => exact uC <| (Kd.C_below HR2_2.out HB.out)); (case side6 => exact HC2_2.out); rintro e w29 ⟨rfl, hb⟩; refine ⟨_, rfl, ?_⟩; replace BK339 := cB BK339 hb; replace BK340 := cB BK340 hb; replace HB := Aside0.mk (below_step bl hb); (try clear hb); obtain ⟨hcz30_0, hcz30_1, hcz30_2, hcz30_3, hcz30_4, hfz30_0, hfz30_1, hfz30_2, hfz30_3, hfz30_4⟩ := z5 BK339; obtain ⟨hcz31_0, hcz31_1, hcz31_2, hfz31_0, hfz31_1, hfz31_2⟩ := z3 BK340) | (refine gL (some 25) rfl Try.func9 #[.agg #[.int .i64 a0_0, .int .i64 a0_1, .int .i64 a0_2, .int .i64 a0_3, .int .i64 a0_4], .int .i64 a1, .slice A2_0 l2_0.length c2_0, .slice A2_1 l2_1.length c2_1, .slice A2_2 l2_2.length c2_2] ?_; (with_reducible refine (emit_Next.calls k a0_0 a0_1 a0_2 a0_3 a0_4 a1 _ _ l2_0 _ _ l2_1 _ _ l2_2 t343 true _ ?side1 ?side2 ?side3 ?side4 ?side5 ?side6 A14.out).mono ?_); (case side1 => exact uC <| (Kd.C_below HR2_0.out HB.out)); (case side2 => exact HC2_0.out); (case side3 => exact uC <| (Kd.C_below HR2_1.out HB.out)); (case side4 => exact HC2_1.out); (case side5 => exact uC <| (Kd.C_below HR2_2.out HB.out)); (case side6 => exact HC2_2.out); rintro e w32 ⟨rfl, hb⟩; refine ⟨_, rfl, ?_⟩; replace BK339 := cB BK339 hb; replace BK340 := cB BK340 hb; replace HB := Aside0.mk (below_step bl hb); (try clear hb); obtain ⟨hcz33_0, hcz33_1, hcz33_2, hcz33_3, hcz33_4, hfz33_0, hfz33_1, hfz33_2, hfz33_3, hfz33_4⟩ := z5 BK339) | (refine gL (some 38) rfl Try.func16 #[.int .i64 t343, .int .i64 a0_2, .int .i64 a0_3, .int .i64 a1] ?_; (with_reducible refine (ebbtideref13_Closed.calls t343 a0_2 a0_3 a1 true _ A16.out).mono ?_); rintro e w' ⟨rfl, ⟨nd, rfl⟩⟩; refine ⟨_, rfl, ?_⟩; obtain ⟨hcz34_0, hcz34_1, hcz34_2, hfz34_0, hfz34_1, hfz34_2⟩ := z3 BK340) | (go_at_call 17; (with_reducible refine (ebbtideref14_Waits.calls k t343 _ _ l2_1 false _ ?side1 ?side2 A18.out).mono ?_); (case side1 => exact (Kd.C_below HR2_1.out bl)); (case side2 => exact HC2_1.out); rintro e w' ⟨rfl, ⟨nd, rfl⟩⟩) | ((with_reducible refine gate_dst (N := 46) rfl ?_); refine Kd.R_lit k46 _ 46 ?hg (N := 46) ?hd (xs := ([] : List (S46))) (inner := []) (ok := fun _ => True) (okp := fun _ => True) ?hr ?hp (fun _ hk => hk) trivial (Below.refl _ _) (Nat.le_refl _) (by simp) ?_; (case hd => rfl); (case hg => rfl); (case hr => first | (go_simp; done) | (go_simp; rfl)); (case hp => exact (Reps.none _ _)); intro v348 w35 ho36 hb hg_ hnew_; clear hg_ hnew_; (first | rw [← Ny347.out] at ho36 | (simp only [Int.reduceToNat] at ho36; rw [← Ny347.out] at ho36)); have HO349 := Aside0.mk (Kd.R_lower ho36 (below_size bl)); replace BK339 := cB BK339 hb; replace BK340 := cB BK340 hb; replace HB := Aside0.mk (below_step bl hb); clear hb ho36; obtain ⟨hcz37_0, hcz37_1, hcz37_2, hfz37_0, hfz37_1, hfz37_2⟩ := z3 BK340) | ((with_reducible refine gate_builtin (b := .append) (xs := #[.tmp 46, .tmp 48]) rfl ?_); at_builtin; refine Kd.R_append_rows k46 (w0 := w) w.heap.size rfl (.tmp 46) (.tmp 48) 24 46 (.agg #[(.int .i64 0), (.int .i64 0)]) 16 rfl Try.underlying24 info46 rfl (by decide) (by omega) v348 y347 l2_0 _ _ _ (fun _ => True) (fun _ => False) rfl rfl ?aO ?aR (fun _ _ h => h) (fun _ h => h.elim) ?aF ?aB ?aS ?aL ?_; (case aR => exact uC <| (Kd.C_below HR2_0.out HB.out)); (case aB => exact bl); (case aF => exact (fun _ _ => trivial)); (case aO => exact (uR HO349.out)); (case aS => exact (below_size bl)); (case aL => have := LMc20.out; omega); intro v351 w38 ho hb hg hat; rw [← Ny350.out] at ho; replace BK339 := Aside0.mk (blk_grown (g := gb339) (o := .cells #[.int .i64 a0_0, .int .i64 a0_1, .int .i64 a0_2, .int .i64 a0_3, .int .i64 a0_4] 23 (0, 0)) (uB BK339.out) hg (Kd.R_ne HO349.out BK339.out (by decide))); replace BK340 := Aside0.mk (blk_grown (g := gb340) (o := .cells #[.slice A2_0 l2_0.length c2_0, .slice A2_1 l2_1.length c2_1, .slice A2_2 l2_2.length c2_2] 28 (0, 0)) (uB BK340.out) hg (Kd.R_ne HO349.out BK340.out (by decide))); replace HB := Aside0.mk (hb); have HO352 := Aside0.mk (ho); clear HO349; clear ho hb hg hat) | ((with_reducible refine gate_builtin (b := .append) (xs := #[.tmp 49, .tmp 52]) rfl ?_); at_builtin; refine Kd.R_append k46 (w0 := w) w.heap.size rfl (.tmp 49) (.tmp 52) 24 46 (.agg #[(.int .i64 0), (.int .i64 0)]) 16 rfl Try.underlying24 info46 rfl (by decide) (by omega) v351 y350 (⟨t343, 9⟩ : S46) [.int .i64 t343, .int .i64 9] (fun _ => True) (fun _ => False) rfl rfl ?aP (fun _ hk => hk.elim) ?aF ?aO ?aB ?aS ?aL ?_; (case aP => exact k46_mkM _ _ _ (⟨t343, 9⟩ : S46)); (case aB => exact bl); (case aF => exact (fun _ _ => trivial)); (case aO => exact (uR HO352.out)); (case aS => exact (below_size bl)); (case aL => have := LMc21.out; omega); intro v354 w39 ho hb hg hat; rw [← Ny353.out] at ho; replace BK339 := Aside0.mk (blk_grown (g := gb339) (o := .cells #[.int .i64 a0_0, .int .i64 a0_1, .int .i64 a0_2, .int .i64 a0_3, .int .i64 a0_4] 23 (0, 0)) (uB BK339.out) hg (Kd.R_ne HO352.out BK339.out (by decide))); replace BK340 := Aside0.mk (blk_grown (g := gb340) (o := .cells #[.slice A2_0 l2_0.length c2_0, .slice A2_1 l2_1.length c2_1, .slice A2_2 l2_2.length c2_2] 28 (0, 0)) (uB BK340.out) hg (Kd.R_ne HO352.out BK340.out (by decide))); replace HB := Aside0.mk (hb); have HO355 := Aside0.mk (ho); clear HO352; clear ho hb hg hat; obtain ⟨hcz40_0, hcz40_1, hcz40_2, hcz40_3, hcz40_4, hfz40_0, hfz40_1, hfz40_2, hfz40_3, hfz40_4⟩ := z5 BK339; obtain ⟨hcz41_0, hcz41_1, hcz41_2, hfz41_0, hfz41_1, hfz41_2⟩ := z3 BK340; obtain ⟨Ao42, co42, eo42⟩ := Kd.R_slice HO355.out; subst eo42) | (refine gL (some 62) rfl Try.func9 #[.agg #[.int .i64 a0_0, .int .i64 a0_1, .int .i64 a0_2, .int .i64 a0_3, .int .i64 a0_4], .int .i64 a1, .slice Ao42 y353.length co42, .slice A2_1 l2_1.length c2_1, .slice A2_2 l2_2.length c2_2] ?_; (with_reducible refine (emit_Next.calls k a0_0 a0_1 a0_2 a0_3 a0_4 a1 _ _ y353 _ _ l2_1 _ _ l2_2 t356 true _ ?side1 ?side2 ?side3 ?side4 ?side5 ?side6 A22.out).mono ?_); (case side1 => exact uC <| (Kd.R_reads' HO355.out).2.2); (case side2 => exact (Kd.R_reads' HO355.out).2.1); (case side3 => exact uC <| (Kd.C_below HR2_1.out HB.out)); (case side4 => exact HC2_1.out); (case side5 => exact uC <| (Kd.C_below HR2_2.out HB.out)); (case side6 => exact HC2_2.out); rintro e w43 ⟨rfl, hb⟩; refine ⟨_, rfl, ?_⟩; replace HO355 := cR HO355 hb; replace BK339 := cB BK339 hb; replace BK340 := cB BK340 hb; replace HB := Aside0.mk (below_step bl hb); (try clear hb)))
       go_ret
       exact ⟨re_, bl⟩
      ·
       replace c23 := Bool.eq_false_iff.mpr c23
       subst c23
       rw [if_neg (show ¬ (false = true) by decide)] at H
       obtain rfl := Option.some.inj H
       go_enter Try.func5, Try.ntmps5
       go_wp2_with (first | ((with_reducible refine gate_dst (N := 3) rfl ?_); refine bx (N := 3) #[.int .i64 a0_0, .int .i64 a0_1, .int .i64 a0_2, .int .i64 a0_3, .int .i64 a0_4] 23 ?_; intro gb339 hg w44 hbox hb; have BK339 := Aside0.mk (hbox); have GW339 := gw hg (uW HB.out); have GE339 := GW339; replace HB := cW HB hb; clear hb hbox hg) | ((with_reducible refine gate_dst (N := 5) rfl ?_); refine bx (N := 5) #[.slice A2_0 l2_0.length c2_0, .slice A2_1 l2_1.length c2_1, .slice A2_2 l2_2.length c2_2] 28 ?_; intro gb340 hg w45 hbox hb; have BK340 := Aside0.mk (hbox); have GW340 := gw hg bl; have GE340 := GW340; replace HB := Aside0.mk (below_step bl hb); have NB339_340 := Aside0.mk ((by rw [hg]; exact Nat.ne_of_lt (blk_lt (g := gb339) (o := .cells #[.int .i64 a0_0, .int .i64 a0_1, .int .i64 a0_2, .int .i64 a0_3, .int .i64 a0_4] 23 (0, 0)) (uB BK339.out)) : gb339 ≠ gb340)); have NB340_339 := Aside0.mk ((by rw [hg]; exact Nat.ne_of_gt (blk_lt (g := gb339) (o := .cells #[.int .i64 a0_0, .int .i64 a0_1, .int .i64 a0_2, .int .i64 a0_3, .int .i64 a0_4] 23 (0, 0)) (uB BK339.out)) : gb340 ≠ gb339)); replace BK339 := cB BK339 hb; clear hb hbox hg) | (refine gL (some 12) rfl Try.func7 #[] ?_; (with_reducible refine (ebbtidelaw17_alive.calls k  true _ A4.out).mono ?_); rintro e w46 ⟨rfl, hb⟩; refine ⟨_, rfl, ?_⟩; replace BK339 := cB BK339 hb; replace BK340 := cB BK340 hb; replace HB := Aside0.mk (below_step bl hb); (try clear hb); have hnb47 := NB340_339.out; have hnc47 := NB339_340.out; obtain ⟨hcz48_0, hcz48_1, hcz48_2, hfz48_0, hfz48_1, hfz48_2⟩ := z3 BK340) | (refine gL (some 15) rfl Try.func8 #[.agg #[.slice A2_0 l2_0.length c2_0, .slice A2_1 l2_1.length c2_1, .slice A2_2 l2_2.length c2_2]] ?_; (with_reducible refine (ebbtidelaw17_great.calls k _ _ l2_0 _ _ l2_1 _ _ l2_2 false _ ?side1 ?side2 ?side3 ?side4 ?side5 ?side6 A6.out).mono ?_); (case side1 => exact uC <| (Kd.C_below HR2_0.out HB.out)); (case side2 => exact HC2_0.out); (case side3 => exact uC <| (Kd.C_below HR2_1.out HB.out)); (case side4 => exact HC2_1.out); (case side5 => exact uC <| (Kd.C_below HR2_2.out HB.out)); (case side6 => exact HC2_2.out); rintro e w49 ⟨rfl, hb⟩; refine ⟨_, rfl, ?_⟩; replace BK339 := cB BK339 hb; replace BK340 := cB BK340 hb; replace HB := Aside0.mk (below_step bl hb); (try clear hb); obtain ⟨hcz50_0, hcz50_1, hcz50_2, hcz50_3, hcz50_4, hfz50_0, hfz50_1, hfz50_2, hfz50_3, hfz50_4⟩ := z5 BK339; obtain ⟨hcz51_0, hcz51_1, hcz51_2, hfz51_0, hfz51_1, hfz51_2⟩ := z3 BK340) | (refine gL (some 25) rfl Try.func9 #[.agg #[.int .i64 a0_0, .int .i64 a0_1, .int .i64 a0_2, .int .i64 a0_3, .int .i64 a0_4], .int .i64 a1, .slice A2_0 l2_0.length c2_0, .slice A2_1 l2_1.length c2_1, .slice A2_2 l2_2.length c2_2] ?_; (with_reducible refine (emit_Next.calls k a0_0 a0_1 a0_2 a0_3 a0_4 a1 _ _ l2_0 _ _ l2_1 _ _ l2_2 t343 true _ ?side1 ?side2 ?side3 ?side4 ?side5 ?side6 A14.out).mono ?_); (case side1 => exact uC <| (Kd.C_below HR2_0.out HB.out)); (case side2 => exact HC2_0.out); (case side3 => exact uC <| (Kd.C_below HR2_1.out HB.out)); (case side4 => exact HC2_1.out); (case side5 => exact uC <| (Kd.C_below HR2_2.out HB.out)); (case side6 => exact HC2_2.out); rintro e w52 ⟨rfl, hb⟩; refine ⟨_, rfl, ?_⟩; replace BK339 := cB BK339 hb; replace BK340 := cB BK340 hb; replace HB := Aside0.mk (below_step bl hb); (try clear hb); obtain ⟨hcz53_0, hcz53_1, hcz53_2, hcz53_3, hcz53_4, hfz53_0, hfz53_1, hfz53_2, hfz53_3, hfz53_4⟩ := z5 BK339) | (refine gL (some 38) rfl Try.func16 #[.int .i64 t343, .int .i64 a0_2, .int .i64 a0_3, .int .i64 a1] ?_; (with_reducible refine (ebbtideref13_Closed.calls t343 a0_2 a0_3 a1 true _ A16.out).mono ?_); rintro e w' ⟨rfl, ⟨nd, rfl⟩⟩; refine ⟨_, rfl, ?_⟩; obtain ⟨hcz54_0, hcz54_1, hcz54_2, hfz54_0, hfz54_1, hfz54_2⟩ := z3 BK340) | (go_at_call 17; (with_reducible refine (ebbtideref14_Waits.calls k t343 _ _ l2_1 false _ ?side1 ?side2 A18.out).mono ?_); (case side1 => exact (Kd.C_below HR2_1.out bl)); (case side2 => exact HC2_1.out); rintro e w' ⟨rfl, ⟨nd, rfl⟩⟩) | ((with_reducible refine gate_dst (N := 46) rfl ?_); refine Kd.R_lit k46 _ 46 ?hg (N := 46) ?hd (xs := ([] : List (S46))) (inner := []) (ok := fun _ => True) (okp := fun _ => True) ?hr ?hp (fun _ hk => hk) trivial (Below.refl _ _) (Nat.le_refl _) (by simp) ?_; (case hd => rfl); (case hg => rfl); (case hr => first | (go_simp; done) | (go_simp; rfl)); (case hp => exact (Reps.none _ _)); intro v348 w55 ho56 hb hg_ hnew_; clear hg_ hnew_; (first | rw [← Ny347.out] at ho56 | (simp only [Int.reduceToNat] at ho56; rw [← Ny347.out] at ho56)); have HO349 := Aside0.mk (Kd.R_lower ho56 (below_size bl)); replace BK339 := cB BK339 hb; replace BK340 := cB BK340 hb; replace HB := Aside0.mk (below_step bl hb); clear hb ho56; obtain ⟨hcz57_0, hcz57_1, hcz57_2, hfz57_0, hfz57_1, hfz57_2⟩ := z3 BK340) | ((with_reducible refine gate_builtin (b := .append) (xs := #[.tmp 46, .tmp 48]) rfl ?_); at_builtin; refine Kd.R_append_rows k46 (w0 := w) w.heap.size rfl (.tmp 46) (.tmp 48) 24 46 (.agg #[(.int .i64 0), (.int .i64 0)]) 16 rfl Try.underlying24 info46 rfl (by decide) (by omega) v348 y347 l2_0 _ _ _ (fun _ => True) (fun _ => False) rfl rfl ?aO ?aR (fun _ _ h => h) (fun _ h => h.elim) ?aF ?aB ?aS ?aL ?_; (case aR => exact uC <| (Kd.C_below HR2_0.out HB.out)); (case aB => exact bl); (case aF => exact (fun _ _ => trivial)); (case aO => exact (uR HO349.out)); (case aS => exact (below_size bl)); (case aL => have := LMc20.out; omega); intro v351 w58 ho hb hg hat; rw [← Ny350.out] at ho; replace BK339 := Aside0.mk (blk_grown (g := gb339) (o := .cells #[.int .i64 a0_0, .int .i64 a0_1, .int .i64 a0_2, .int .i64 a0_3, .int .i64 a0_4] 23 (0, 0)) (uB BK339.out) hg (Kd.R_ne HO349.out BK339.out (by decide))); replace BK340 := Aside0.mk (blk_grown (g := gb340) (o := .cells #[.slice A2_0 l2_0.length c2_0, .slice A2_1 l2_1.length c2_1, .slice A2_2 l2_2.length c2_2] 28 (0, 0)) (uB BK340.out) hg (Kd.R_ne HO349.out BK340.out (by decide))); replace HB := Aside0.mk (hb); have HO352 := Aside0.mk (ho); clear HO349; clear ho hb hg hat) | ((with_reducible refine gate_builtin (b := .append) (xs := #[.tmp 49, .tmp 52]) rfl ?_); at_builtin; refine Kd.R_append k46 (w0 := w) w.heap.size rfl (.tmp 49) (.tmp 52) 24 46 (.agg #[(.int .i64 0), (.int .i64 0)]) 16 rfl Try.underlying24 info46 rfl (by decide) (by omega) v351 y350 (⟨t343, 9⟩ : S46) [.int .i64 t343, .int .i64 9] (fun _ => True) (fun _ => False) rfl rfl ?aP (fun _ hk => hk.elim) ?aF ?aO ?aB ?aS ?aL ?_; (case aP => exact k46_mkM _ _ _ (⟨t343, 9⟩ : S46)); (case aB => exact bl); (case aF => exact (fun _ _ => trivial)); (case aO => exact (uR HO352.out)); (case aS => exact (below_size bl)); (case aL => have := LMc21.out; omega); intro v354 w59 ho hb hg hat; rw [← Ny353.out] at ho; replace BK339 := Aside0.mk (blk_grown (g := gb339) (o := .cells #[.int .i64 a0_0, .int .i64 a0_1, .int .i64 a0_2, .int .i64 a0_3, .int .i64 a0_4] 23 (0, 0)) (uB BK339.out) hg (Kd.R_ne HO352.out BK339.out (by decide))); replace BK340 := Aside0.mk (blk_grown (g := gb340) (o := .cells #[.slice A2_0 l2_0.length c2_0, .slice A2_1 l2_1.length c2_1, .slice A2_2 l2_2.length c2_2] 28 (0, 0)) (uB BK340.out) hg (Kd.R_ne HO352.out BK340.out (by decide))); replace HB := Aside0.mk (hb); have HO355 := Aside0.mk (ho); clear HO352; clear ho hb hg hat; obtain ⟨hcz60_0, hcz60_1, hcz60_2, hcz60_3, hcz60_4, hfz60_0, hfz60_1, hfz60_2, hfz60_3, hfz60_4⟩ := z5 BK339; obtain ⟨hcz61_0, hcz61_1, hcz61_2, hfz61_0, hfz61_1, hfz61_2⟩ := z3 BK340; obtain ⟨Ao62, co62, eo62⟩ := Kd.R_slice HO355.out; subst eo62) | (refine gL (some 62) rfl Try.func9 #[.agg #[.int .i64 a0_0, .int .i64 a0_1, .int .i64 a0_2, .int .i64 a0_3, .int .i64 a0_4], .int .i64 a1, .slice Ao62 y353.length co62, .slice A2_1 l2_1.length c2_1, .slice A2_2 l2_2.length c2_2] ?_; (with_reducible refine (emit_Next.calls k a0_0 a0_1 a0_2 a0_3 a0_4 a1 _ _ y353 _ _ l2_1 _ _ l2_2 t356 false _ ?side1 ?side2 ?side3 ?side4 ?side5 ?side6 A22.out).mono ?_); (case side1 => exact uC <| (Kd.R_reads' HO355.out).2.2); (case side2 => exact (Kd.R_reads' HO355.out).2.1); (case side3 => exact uC <| (Kd.C_below HR2_1.out HB.out)); (case side4 => exact HC2_1.out); (case side5 => exact uC <| (Kd.C_below HR2_2.out HB.out)); (case side6 => exact HC2_2.out); rintro e w63 ⟨rfl, hb⟩; refine ⟨_, rfl, ?_⟩; replace HO355 := cR HO355 hb; replace BK339 := cB BK339 hb; replace BK340 := cB BK340 hb; replace HB := Aside0.mk (below_step bl hb); (try clear hb)))
       go_ret
       exact ⟨re_, bl⟩
    ·
     replace c17 := Bool.eq_false_iff.mpr c17
     subst c17
     rw [if_neg (show ¬ (false = true) by decide)] at H
     exact absurd H (by simp)
   ·
    replace c15 := Bool.eq_false_iff.mpr c15
    subst c15
    rw [if_neg (show ¬ (false = true) by decide)] at H
    obtain rfl := Option.some.inj H
    go_enter Try.func5, Try.ntmps5
    go_wp2_with (first | ((with_reducible refine gate_dst (N := 3) rfl ?_); refine bx (N := 3) #[.int .i64 a0_0, .int .i64 a0_1, .int .i64 a0_2, .int .i64 a0_3, .int .i64 a0_4] 23 ?_; intro gb339 hg w64 hbox hb; have BK339 := Aside0.mk (hbox); have GW339 := gw hg (uW HB.out); have GE339 := GW339; replace HB := cW HB hb; clear hb hbox hg) | ((with_reducible refine gate_dst (N := 5) rfl ?_); refine bx (N := 5) #[.slice A2_0 l2_0.length c2_0, .slice A2_1 l2_1.length c2_1, .slice A2_2 l2_2.length c2_2] 28 ?_; intro gb340 hg w65 hbox hb; have BK340 := Aside0.mk (hbox); have GW340 := gw hg bl; have GE340 := GW340; replace HB := Aside0.mk (below_step bl hb); have NB339_340 := Aside0.mk ((by rw [hg]; exact Nat.ne_of_lt (blk_lt (g := gb339) (o := .cells #[.int .i64 a0_0, .int .i64 a0_1, .int .i64 a0_2, .int .i64 a0_3, .int .i64 a0_4] 23 (0, 0)) (uB BK339.out)) : gb339 ≠ gb340)); have NB340_339 := Aside0.mk ((by rw [hg]; exact Nat.ne_of_gt (blk_lt (g := gb339) (o := .cells #[.int .i64 a0_0, .int .i64 a0_1, .int .i64 a0_2, .int .i64 a0_3, .int .i64 a0_4] 23 (0, 0)) (uB BK339.out)) : gb340 ≠ gb339)); replace BK339 := cB BK339 hb; clear hb hbox hg) | (refine gL (some 12) rfl Try.func7 #[] ?_; (with_reducible refine (ebbtidelaw17_alive.calls k  true _ A4.out).mono ?_); rintro e w66 ⟨rfl, hb⟩; refine ⟨_, rfl, ?_⟩; replace BK339 := cB BK339 hb; replace BK340 := cB BK340 hb; replace HB := Aside0.mk (below_step bl hb); (try clear hb); have hnb67 := NB340_339.out; have hnc67 := NB339_340.out; obtain ⟨hcz68_0, hcz68_1, hcz68_2, hfz68_0, hfz68_1, hfz68_2⟩ := z3 BK340) | (refine gL (some 15) rfl Try.func8 #[.agg #[.slice A2_0 l2_0.length c2_0, .slice A2_1 l2_1.length c2_1, .slice A2_2 l2_2.length c2_2]] ?_; (with_reducible refine (ebbtidelaw17_great.calls k _ _ l2_0 _ _ l2_1 _ _ l2_2 false _ ?side1 ?side2 ?side3 ?side4 ?side5 ?side6 A6.out).mono ?_); (case side1 => exact uC <| (Kd.C_below HR2_0.out HB.out)); (case side2 => exact HC2_0.out); (case side3 => exact uC <| (Kd.C_below HR2_1.out HB.out)); (case side4 => exact HC2_1.out); (case side5 => exact uC <| (Kd.C_below HR2_2.out HB.out)); (case side6 => exact HC2_2.out); rintro e w69 ⟨rfl, hb⟩; refine ⟨_, rfl, ?_⟩; replace BK339 := cB BK339 hb; replace BK340 := cB BK340 hb; replace HB := Aside0.mk (below_step bl hb); (try clear hb); obtain ⟨hcz70_0, hcz70_1, hcz70_2, hcz70_3, hcz70_4, hfz70_0, hfz70_1, hfz70_2, hfz70_3, hfz70_4⟩ := z5 BK339; obtain ⟨hcz71_0, hcz71_1, hcz71_2, hfz71_0, hfz71_1, hfz71_2⟩ := z3 BK340) | (refine gL (some 25) rfl Try.func9 #[.agg #[.int .i64 a0_0, .int .i64 a0_1, .int .i64 a0_2, .int .i64 a0_3, .int .i64 a0_4], .int .i64 a1, .slice A2_0 l2_0.length c2_0, .slice A2_1 l2_1.length c2_1, .slice A2_2 l2_2.length c2_2] ?_; (with_reducible refine (emit_Next.calls k a0_0 a0_1 a0_2 a0_3 a0_4 a1 _ _ l2_0 _ _ l2_1 _ _ l2_2 t343 false _ ?side1 ?side2 ?side3 ?side4 ?side5 ?side6 A14.out).mono ?_); (case side1 => exact uC <| (Kd.C_below HR2_0.out HB.out)); (case side2 => exact HC2_0.out); (case side3 => exact uC <| (Kd.C_below HR2_1.out HB.out)); (case side4 => exact HC2_1.out); (case side5 => exact uC <| (Kd.C_below HR2_2.out HB.out)); (case side6 => exact HC2_2.out); rintro e w72 ⟨rfl, hb⟩; refine ⟨_, rfl, ?_⟩; replace BK339 := cB BK339 hb; replace BK340 := cB BK340 hb; replace HB := Aside0.mk (below_step bl hb); (try clear hb)))
    go_ret
    exact ⟨re_, bl⟩
 ·
  replace c5 := Bool.eq_false_iff.mpr c5
  subst c5
  rw [if_neg (show ¬ (false = true) by decide)] at H
  exact absurd H (by simp)
def ebbtidelaw17_EmitOnce.Pure : Prop := ∀ (x0 : S23) (a1 : Int) (x2 : S28), Q23 x0 → ((Lit.int .i64 a1).wf = true) → Q28 x2 → ∃ k, ebbtidelaw17_EmitOnce.f k x0.f0 x0.f1 x0.f2 x0.f3 x0.f4 a1 x2.f0 x2.f1 x2.f2 = some true
theorem ebbtidelaw17_EmitOnce.walk (P : ebbtidelaw17_EmitOnce.Pure) (x0 : S23) (a1 : Int) (x2 : S28) (w : World) (A2_0 : Option Addr) (c2_0 : Nat) (hr2_0 : Kd.C k46 w A2_0 x2.f0.length x2.f0) (hc2_0 : x2.f0.length ≤ c2_0) (A2_1 : Option Addr) (c2_1 : Nat) (hr2_1 : Kd.C (Kd.slice 61 k61) w A2_1 x2.f1.length x2.f1) (hc2_1 : x2.f1.length ≤ c2_1) (A2_2 : Option Addr) (c2_2 : Nat) (hr2_2 : Kd.C k50 w A2_2 x2.f2.length x2.f2) (hc2_2 : x2.f2.length ≤ c2_2) (q0 : Q23 x0) (q1 : (Lit.int .i64 a1).wf = true) (q2 : Q28 x2) :
 Calls Try.prog 5 #[.agg #[.int .i64 x0.f0, .int .i64 x0.f1, .int .i64 x0.f2, .int .i64 x0.f3, .int .i64 x0.f4], .int .i64 a1, .agg #[.slice A2_0 x2.f0.length c2_0, .slice A2_1 x2.f1.length c2_1, .slice A2_2 x2.f2.length c2_2]] w fun e w' => e = .returned (.bool true) ∧ Below w.heap.size w w' := by
 obtain ⟨k, h⟩ := P x0 a1 x2 q0 q1 q2
 refine (ebbtidelaw17_EmitOnce.calls k x0.f0 x0.f1 x0.f2 x0.f3 x0.f4 a1 A2_0 c2_0 x2.f0 A2_1 c2_1 x2.f1 A2_2 c2_2 x2.f2 true w hr2_0 hc2_0 hr2_1 hc2_1 hr2_2 hc2_2 h).mono ?_
 rintro e w' ⟨rfl, hd⟩
 exact ⟨rfl, hd⟩
end Go.Proofs.Ytklhjponikgkkaa.X
