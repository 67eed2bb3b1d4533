/- Printed by a program of this session's own: what functions of the program compute, and that the machine computes it. No condition of its own. -/
import Derived.Test.YteckidchnicjeaaGreatDoorM3
import Derived.Test.YteckidchnicjeaaGreatDoorM9
import Derived.Test.YteckidchnicjeaaGreatDoorM8
namespace Go.Proofs.YteckidchnicjeaaGreatDoor.X
open Go.RowKit Go.Proofs.YteckidchnicjeaaGreatDoorW.PrintWords Go.Proofs.YteckidchnicjeaaGreatDoorW.PrintLast Go.Proofs.YteckidchnicjeaaGreatDoorW.PrintMore
attribute [local go_sem] max2_int min2_int max_two min_two max_three min_three max_four min_four
set_option linter.unusedVariables false
set_option linter.unusedSimpArgs false
set_option maxHeartbeats 8000000
set_option maxRecDepth 100000
mutual
def r03_Canon.l0 : Nat → List (S113) → Int → Option ((List (S113)) × Int)
 | 0, _, _ => none
 | k + 1, x0, x4 => if x4 < (x0.length : Int) then (if 0 ≤ x4 then ((r03_may.f k ((rd_T113 x0 x4).f0) ((rd_T113 x0 x4).f1)).bind fun t462 => (if t462 = true then (r03_Canon.l0 k x0 (wrap64 (x4 + 1))) else (some (([] : List (S113)), 2)))) else (none)) else (if (x0.length : Int) > 4 then (some (([] : List (S113)), 4)) else (r03_Canon.l1 k x0 ([] : List (S113)) 0))
def r03_Canon.l1 : Nat → List (S113) → List (S113) → Int → Option ((List (S113)) × Int)
 | 0, _, _, _ => none
 | k + 1, x0, x5, x6 => if x6 < (x0.length : Int) then (r03_Canon.l2 k x0 x5 x6 0) else (some (x5, 0))
def r03_Canon.l2 : Nat → List (S113) → List (S113) → Int → Int → Option ((List (S113)) × Int)
 | 0, _, _, _, _ => none
 | k + 1, x0, x5, x6, x7 => if x7 < (x5.length : Int) then (if 0 ≤ x7 then (if 0 ≤ x6 then (if x6 < (x0.length : Int) then (if (Op.bytesLess (((rd_T113 x5 x7).f0).toList) (((rd_T113 x0 x6).f0).toList)) = true then (r03_Canon.l2 k x0 x5 x6 (wrap64 (x7 + 1))) else (if ((rd_T113 x5 x7).f0).toList = ((rd_T113 x0 x6).f0).toList then (some (([] : List (S113)), 5)) else ((some (([] : List (S113)) : List (S113))).bind fun y467 => (if x7 ≤ (x5.length : Int) then ((some (x5.drop (x7 : Int).toNat : List (S113))).bind fun y470 => (if y467.length + y470.length < 4398046511104 then ((some (y467 ++ y470 : List (S113))).bind fun y474 => ((some (x5.take (x7 : Int).toNat : List (S113))).bind fun y477 => (if y477.length < 4398046511104 then ((some (y477 ++ [(⟨(rd_T113 x0 x6).f0, (rd_T113 x0 x6).f1⟩ : S113)] : List (S113))).bind fun y481 => (if y481.length + y474.length < 4398046511104 then (r03_Canon.l1 k x0 (y481 ++ y474) (wrap64 (x6 + 1))) else (none))) else (none)))) else (none))) else (none))))) else (none)) else (none)) else (none)) else ((some (([] : List (S113)) : List (S113))).bind fun y487 => (if 0 ≤ x7 then (if x7 ≤ (x5.length : Int) then ((some (x5.drop (x7 : Int).toNat : List (S113))).bind fun y490 => (if y487.length + y490.length < 4398046511104 then ((some (y487 ++ y490 : List (S113))).bind fun y494 => ((some (x5.take (x7 : Int).toNat : List (S113))).bind fun y497 => (if 0 ≤ x6 then (if x6 < (x0.length : Int) then (if y497.length < 4398046511104 then ((some (y497 ++ [(⟨(rd_T113 x0 x6).f0, (rd_T113 x0 x6).f1⟩ : S113)] : List (S113))).bind fun y501 => (if y501.length + y494.length < 4398046511104 then (r03_Canon.l1 k x0 (y501 ++ y494) (wrap64 (x6 + 1))) else (none))) else (none)) else (none)) else (none)))) else (none))) else (none)) else (none)))
end
def r03_Canon.f (k : Nat) (l0 : List (S113)) : Option ((List (S113)) × Int) := r03_Canon.l0 k l0 0
theorem r03_Canon.mono_l : ∀ k, (∀ y0 y1, LeC (r03_Canon.l0 k y0 y1) (r03_Canon.l0 (k + 1) y0 y1)) ∧ (∀ y0 y1 y2, LeC (r03_Canon.l1 k y0 y1 y2) (r03_Canon.l1 (k + 1) y0 y1 y2)) ∧ (∀ y0 y1 y2 y3, LeC (r03_Canon.l2 k y0 y1 y2 y3) (r03_Canon.l2 (k + 1) y0 y1 y2 y3))
 | 0 => ⟨fun _ _ => ⟨fun r h => by simp [r03_Canon.l0] at h⟩, fun _ _ _ => ⟨fun r h => by simp [r03_Canon.l1] at h⟩, fun _ _ _ _ => ⟨fun r h => by simp [r03_Canon.l2] at h⟩⟩
 | k + 1 => by obtain ⟨ih0, ih1, ih2⟩ := r03_Canon.mono_l k; exact ⟨fun _ _ => by unfold r03_Canon.l0; exact lm, fun _ _ _ => by unfold r03_Canon.l1; exact lm, fun _ _ _ _ => by unfold r03_Canon.l2; exact lm⟩
theorem r03_Canon.mono : ∀ a0 k, LeO (r03_Canon.f k a0) (r03_Canon.f (k + 1) a0) := by
 intro a0 k
 obtain ⟨ih0, ih1, ih2⟩ := r03_Canon.mono_l k
 unfold r03_Canon.f
 exact lo
instance r03_Canon.mI {a0 k} : LeC (r03_Canon.f k a0) (r03_Canon.f (k + 1) a0) := ⟨r03_Canon.mono _ _⟩
def r03_Canon.T13 : Bool × List (List Nat × List Nat) := (true, [([], []), ([], []), ([1], [1]), ([0, 2], [0, 2]), ([3], [3]), ([4], [4]), ([4], [4]), ([5, 6, 4], [4, 5, 6]), ([7, 4], [4, 7]), ([8, 4], [4, 8]), ([4], [4]), ([4], [4]), ([10, 11, 4], [4, 10, 11]), ([12, 4], [4, 12]), ([13, 4], [4, 13]), ([9, 14, 4], [4, 9, 14]), ([4, 15], [4, 15])])
def r03_Canon.B13 : List Nat := [0, 0, 2, 7, 15, 31, 31, 127, 255, 511, 31, 31, 3103, 7199, 15391, 32767, 65535]
theorem r03_Canon.tab13 : rtab .any (opsOf Tryz.f94 13) = r03_Canon.T13 := by kernel_rfl
theorem r03_Canon.bits13 : waitsOk r03_Canon.T13.2 r03_Canon.B13 = true := by kernel_rfl
def r03_Canon.T15 : Bool × List (List Nat × List Nat) := (true, [([], []), ([], []), ([1], [1]), ([0, 2], [0, 2]), ([3], [3]), ([4], [4]), ([4], [4]), ([5, 6, 4], [4, 5, 6]), ([7, 4], [4, 7]), ([8, 4], [4, 8]), ([4], [4]), ([4], [4]), ([10, 11, 4], [4, 10, 11]), ([12, 4], [4, 12]), ([13, 4], [4, 13]), ([9, 14, 4], [4, 9, 14]), ([4, 15], [4, 15])])
def r03_Canon.B15 : List Nat := [0, 0, 2, 7, 15, 31, 31, 127, 255, 511, 31, 31, 3103, 7199, 15391, 32767, 65535]
theorem r03_Canon.tab15 : rtab .any (opsOf Tryz.f94 15) = r03_Canon.T15 := by kernel_rfl
theorem r03_Canon.bits15 : waitsOk r03_Canon.T15.2 r03_Canon.B15 = true := by kernel_rfl
def r03_Canon.T18 : Bool × List (List Nat × List Nat) := (true, [([], []), ([], []), ([0, 1], [0, 1]), ([], []), ([], []), ([3, 4], [3, 4]), ([5], [5]), ([6], [6]), ([2, 7], [2, 7]), ([], []), ([8, 9, 8], [8, 9]), ([10, 10, 0, 1, 2, 3, 4, 5, 6, 7, 8, 9, 10], [0, 10])])
def r03_Canon.B18 : List Nat := [0, 0, 3, 0, 0, 24, 56, 120, 255, 0, 1023, 2047]
theorem r03_Canon.tab18 : rtab .any (opsOf Tryz.f94 18) = r03_Canon.T18 := by kernel_rfl
theorem r03_Canon.bits18 : waitsOk r03_Canon.T18.2 r03_Canon.B18 = true := by kernel_rfl
theorem r03_Canon.calls (k : Nat) (A0 : Option Addr) (c0 : Nat) (l0 : List (S113)) (r1 : List (S113)) (r2 : Int) (w : World) (hr0 : Kd.C k113 w A0 l0.length l0) (hc0 : l0.length ≤ c0) (h : r03_Canon.f k l0 = some (r1, r2)) :
 Calls Tryz.prog 94 #[.slice A0 l0.length c0] w fun e w' => ∃ v0_ : Value, e = .returned (.tuple #[v0_, .int .i64 r2]) ∧ Kd.R k113 113 w' w.heap.size (fun _ => True) v0_ r1 ∧ Below w.heap.size w w' := by
 have hu113 := Tryz.underlying113
 have HR0 := Aside0.mk hr0
 have HC0 := Aside0.mk hc0
 clear hr0 hc0
 have HB := Aside0.mk (Below.refl w.heap.size w)
 have H : (r03_Canon.l0 k l0 0) = some (r1, r2) := h
 clear h
 have H' := Aside0.mk H
 clear H
 go_enter Tryz.func94, Tryz.ntmps94
 go_wp2
 go_loopg [4] k (fun kq v4 w' => ∃ (x4_1 : Int), v4 = .int .i64 x4_1 ∧ Aside0 (r03_Canon.l0 kq l0 x4_1 = some (r1, r2)) ∧ Aside0 (kq ≤ k) ∧ Aside0 (Below w.heap.size w w'))
 case atStart => exact ⟨(0), rs_, H', ⟨Nat.le_refl _⟩, ⟨uW HB.out⟩⟩
 case round =>
  clear H'
  obtain ⟨x4_1, rfl, HA, HK1, HB⟩ := hrel
  cases gk with
  | zero => exact absurd HA.out (by simp [r03_Canon.l0])
  | succ k1 =>
   have H := HA.out
   clear HA
   simp only [r03_Canon.l0] at H
   by_cases c2 : x4_1 < (l0.length : Int)
   ·
    rw [if_pos c2] at H
    have c2b0 : decide (x4_1 < (l0.length : Int)) = true := decide_eq_true c2
    clear c2
    obtain ⟨c3b0, H⟩ := gdd H
    obtain ⟨t462, A4, H⟩ := bs H
    try dsimp only at H
    by_cases c5 : t462 = true
    ·
     subst c5
     rw [if_pos rfl] at H
     have H' := Aside0.mk H
     clear H
     have p461 : 0 ≤ (x4_1 : Int) := od
     have q461 : x4_1 < (l0.length : Int) := od
     obtain ⟨ad461, e461, hx461_0, hx461_1⟩ := at_T113 HR0.out x4_1 p461 q461
     cases e461
     replace hx461_0 := kc HB hx461_0
     replace hx461_1 := kc HB hx461_1
     replace p461 := eq_true p461
     replace q461 := eq_true q461
     go_wp2_with (first | (refine gL (some 19) rfl Tryz.func116 #[.agg #[.string ((rd_T113 l0 x4_1).f0), .string ((rd_T113 l0 x4_1).f1)]] ?_; (with_reducible refine (r03_may.calls k1 ((rd_T113 l0 x4_1).f0) ((rd_T113 l0 x4_1).f1) true _ A4.out).mono ?_); rintro e w6 ⟨rfl, hb⟩; refine ⟨_, rfl, ?_⟩; replace HB := cW HB hb; (try clear hb)))
     go_roundg k1
     case measure => have := HK1.out; omega
     case rel => exact ⟨(wrap64 (x4_1 + 1)), rs_, H', ⟨by have := HK1.out; omega⟩, ⟨uW HB.out⟩⟩
    ·
     replace c5 := Bool.eq_false_iff.mpr c5
     subst c5
     rw [if_neg (show ¬ (false = true) by decide)] at H
     simp only [Option.some.injEq, Prod.mk.injEq] at H
     obtain ⟨rfl, rfl⟩ := H
     have p461 : 0 ≤ (x4_1 : Int) := od
     have q461 : x4_1 < (l0.length : Int) := od
     obtain ⟨ad461, e461, hx461_0, hx461_1⟩ := at_T113 HR0.out x4_1 p461 q461
     cases e461
     replace hx461_0 := kc HB hx461_0
     replace hx461_1 := kc HB hx461_1
     replace p461 := eq_true p461
     replace q461 := eq_true q461
     go_wp2_with (first | (refine gL (some 19) rfl Tryz.func116 #[.agg #[.string ((rd_T113 l0 x4_1).f0), .string ((rd_T113 l0 x4_1).f1)]] ?_; (with_reducible refine (r03_may.calls k1 ((rd_T113 l0 x4_1).f0) ((rd_T113 l0 x4_1).f1) false _ A4.out).mono ?_); rintro e w7 ⟨rfl, hb⟩; refine ⟨_, rfl, ?_⟩; replace HB := cW HB hb; (try clear hb)))
     go_ret2
     exact ⟨_, re_, nl_, uW HB.out⟩
   ·
    rw [if_neg c2] at H
    have c2b0 : decide (x4_1 < (l0.length : Int)) = false := decide_eq_false c2
    clear c2
    by_cases c8 : (l0.length : Int) > 4
    ·
     rw [if_pos c8] at H
     have c8b0 : decide (4 < (l0.length : Int)) = true := decide_eq_true c8
     have c8b1 : decide (4 < l0.length) = true := decide_eq_true (by omega)
     clear c8
     simp only [Option.some.injEq, Prod.mk.injEq] at H
     obtain ⟨rfl, rfl⟩ := H
     go_wp2
     go_ret2
     exact ⟨_, re_, nl_, uW HB.out⟩
    ·
     rw [if_neg c8] at H
     have c8b0 : decide (4 < (l0.length : Int)) = false := decide_eq_false c8
     have c8b1 : decide (4 < l0.length) = false := decide_eq_false (by omega)
     clear c8
     have H' := Aside0.mk H
     clear H
     go_wp2
     go_loopg [5, 6] k1 (fun kq v5 v6 w' => ∃ (x5_2 : List (S113)) (x6_2 : Int), v6 = .int .i64 x6_2 ∧ Aside0 (r03_Canon.l1 kq l0 x5_2 x6_2 = some (r1, r2)) ∧ Aside0 (kq ≤ k1) ∧ Aside0 (Kd.R k113 113 w' w.heap.size (fun _ => True) v5 x5_2) ∧ Aside0 (Below w.heap.size w w'))
     case atStart => exact ⟨(([] : List (S113))), (0), rs_, H', ⟨Nat.le_refl _⟩, ⟨nl_⟩, ⟨uW HB.out⟩⟩
     case round =>
      clear H'
      try clear c1
      try clear c2
      try clear c2b0
      try clear p2
      try clear c3
      try clear c3b0
      try clear p4
      try clear q4
      try clear hx4
      try clear c5
      try clear p6
      try clear c8
      try clear c8b0
      try clear c8b1
      try clear hx461_0
      try clear hx461_1
      try clear p461
      try clear q461
      obtain ⟨x5_2, x6_2, rfl, HA, HK2, HO_5, HB⟩ := hrel
      cases gk with
      | zero => exact absurd HA.out (by simp [r03_Canon.l1])
      | succ k2 =>
       have H := HA.out
       clear HA
       simp only [r03_Canon.l1] at H
       by_cases c9 : x6_2 < (l0.length : Int)
       ·
        rw [if_pos c9] at H
        have c9b0 : decide (x6_2 < (l0.length : Int)) = true := decide_eq_true c9
        clear c9
        have H' := Aside0.mk H
        clear H
        go_wp2
        go_loopg [7] k2 (fun kq v7 w' => ∃ (x7_3 : Int), v7 = .int .i64 x7_3 ∧ Aside0 (r03_Canon.l2 kq l0 x5_2 x6_2 x7_3 = some (r1, r2)) ∧ Aside0 (kq ≤ k2) ∧ Aside0 (Kd.R k113 113 w' w.heap.size (fun _ => True) u5 x5_2) ∧ Aside0 (Below w.heap.size w w'))
        case atStart => exact ⟨(0), rs_, H', ⟨Nat.le_refl _⟩, ⟨uR HO_5.out⟩, ⟨uW HB.out⟩⟩
        case round =>
         clear H'
         try clear c1
         try clear c2
         try clear c2b0
         try clear p2
         try clear c3
         try clear c3b0
         try clear p4
         try clear q4
         try clear hx4
         try clear c5
         try clear p6
         try clear c8
         try clear c8b0
         try clear c8b1
         try clear c9
         try clear c9b0
         try clear hx461_0
         try clear hx461_1
         try clear p2
         try clear p4
         try clear p461
         try clear p6
         try clear q4
         try clear q461
         obtain ⟨x7_3, rfl, HA, HK3, HO_5, HB⟩ := hrel
         cases gk with
         | zero => exact absurd HA.out (by simp [r03_Canon.l2])
         | succ k3 =>
          have H := HA.out
          clear HA
          simp only [r03_Canon.l2] at H
          by_cases c10 : x7_3 < (x5_2.length : Int)
          ·
           rw [if_pos c10] at H
           have c10b0 : decide (x7_3 < (x5_2.length : Int)) = true := decide_eq_true c10
           clear c10
           obtain ⟨c11b0, H⟩ := gdd H
           obtain ⟨c12b0, H⟩ := gdd H
           obtain ⟨c13b0, H⟩ := gdd H
           by_cases c14 : (Op.bytesLess (((rd_T113 x5_2 x7_3).f0).toList) (((rd_T113 l0 x6_2).f0).toList)) = true
           ·
            rw [if_pos c14] at H
            have c14b0 : (Op.bytesLess (((rd_T113 x5_2 x7_3).f0).toList) (((rd_T113 l0 x6_2).f0).toList)) = true := c14
            clear c14
            have H' := Aside0.mk H
            clear H
            try go_wp2
            replace HO_5 := Aside0.mk (Kd.R_drew HO_5.out)
            replace HB := Aside0.mk (below_drew1 HB.out)
            obtain ⟨Ao16, co16, eo16⟩ := Kd.R_slice HO_5.out
            (first | subst eo16 | (injection eo16 with f1_ f2_ f3_; have f4_ := f1_.symm; have f5_ := f3_.symm; clear f1_ f2_ f3_; subst f4_; subst f5_))
            have p463 : 0 ≤ (x7_3 : Int) := od
            have q463 : x7_3 < (x5_2.length : Int) := od
            obtain ⟨ad463, e463, hx463_0, hx463_1⟩ := at_T113 (Kd.R_reads' HO_5.out).2.2 x7_3 p463 q463
            cases e463
            replace p463 := eq_true p463
            replace q463 := eq_true q463
            have p464 : 0 ≤ (x6_2 : Int) := od
            have q464 : x6_2 < (l0.length : Int) := od
            obtain ⟨ad464, e464, hx464_0, hx464_1⟩ := at_T113 HR0.out x6_2 p464 q464
            have hw464_1 := hx464_1
            have hw464_0 := hx464_0
            cases e464
            replace hx464_0 := kc HB hx464_0
            replace hx464_1 := kc HB hx464_1
            replace p464 := eq_true p464
            replace q464 := eq_true q464
            refine start_ (n := 17) (S := fun w' => w'.cell? (ad463.add ((x7_3).toNat * 2)) = some (.string ((rd_T113 x5_2 x7_3).f0)) ∧ w'.cell? ⟨(ad463.add ((x7_3).toNat * 2)).block, (ad463.add ((x7_3).toNat * 2)).off + 1, none⟩ = some (.string ((rd_T113 x5_2 x7_3).f1)) ∧ w'.cell? (ad464.add ((x6_2).toNat * 2)) = some (.string ((rd_T113 l0 x6_2).f0)) ∧ w'.cell? ⟨(ad464.add ((x6_2).toNat * 2)).block, (ad464.add ((x6_2).toNat * 2)).off + 1, none⟩ = some (.string ((rd_T113 l0 x6_2).f1))) (ds := []) _ (by kernel_rfl) rfl rfl ⟨hx463_0, hx463_1, (kc HB hw464_0), (kc HB hw464_1)⟩ (fun hHeld => ?_); refine with_tabW r03_Canon.tab13 r03_Canon.bits13 (fun HT_ HW_ => ?_)
            generalize wr.drew = w15 at HO_5 HB hx463_0 hx463_1 hx464_0 hx464_1 hHeld ⊢
            refine p1 0 (some 30) ?_
            refine p1 1 (some 31) ?_
            refine p1 2 (some 32) ?_
            refine p1 3 (some 33) ?_
            refine p1 4 (some 34) ?_
            refine p1 5 (some 35) ?_
            refine p1 6 (some 36) ?_
            refine p1 7 (some 37) ?_
            refine p1 8 (some 38) ?_
            refine p1 10 (some 40) ?_
            refine p1 11 (some 41) ?_
            refine p1 12 (some 42) ?_
            refine p1 13 (some 43) ?_
            refine t1 9 (some 39) rfl rfl hHeld (Or.inl ⟨by rfl, by rintro w' ⟨s0, s1, s2, s3⟩; go_simp; with_reducible rfl⟩) ?_
            refine t1 14 (some 44) rfl rfl hHeld (Or.inl ⟨by rfl, by rintro w' ⟨s0, s1, s2, s3⟩; go_simp; with_reducible rfl⟩) ?_
            refine p1 15 (some 45) ?_
            refine p1 16 (some 46) ?_
            refine done_ (done_of HT_.out (by kernel_rfl)) ?_
            try go_wp2
            go_roundg k3
            case measure => have := HK1.out; have := HK2.out; have := HK3.out; omega
            case rel => exact ⟨(wrap64 (x7_3 + 1)), rs_, H', ⟨by have := HK1.out; have := HK2.out; have := HK3.out; omega⟩, ⟨uR HO_5.out⟩, ⟨uW HB.out⟩⟩
           ·
            rw [if_neg c14] at H
            have c14b0 : (Op.bytesLess (((rd_T113 x5_2 x7_3).f0).toList) (((rd_T113 l0 x6_2).f0).toList)) = false := by simpa using c14
            clear c14
            by_cases c17 : ((rd_T113 x5_2 x7_3).f0).toList = ((rd_T113 l0 x6_2).f0).toList
            ·
             rw [if_pos c17] at H
             have c17b0 : (((rd_T113 x5_2 x7_3).f0).toList == ((rd_T113 l0 x6_2).f0).toList) = true := beq_iff_eq.mpr c17
             have c17b1 : (((rd_T113 x5_2 x7_3).f0).toList != ((rd_T113 l0 x6_2).f0).toList) = false := bne_eq_false_iff_eq.mpr c17
             clear c17
             simp only [Option.some.injEq, Prod.mk.injEq] at H
             obtain ⟨rfl, rfl⟩ := H
             try go_wp2
             replace HO_5 := Aside0.mk (Kd.R_drew HO_5.out)
             replace HB := Aside0.mk (below_drew1 HB.out)
             obtain ⟨Ao19, co19, eo19⟩ := Kd.R_slice HO_5.out
             (first | subst eo19 | (injection eo19 with f1_ f2_ f3_; have f4_ := f1_.symm; have f5_ := f3_.symm; clear f1_ f2_ f3_; subst f4_; subst f5_))
             have p463 : 0 ≤ (x7_3 : Int) := od
             have q463 : x7_3 < (x5_2.length : Int) := od
             obtain ⟨ad463, e463, hx463_0, hx463_1⟩ := at_T113 (Kd.R_reads' HO_5.out).2.2 x7_3 p463 q463
             cases e463
             replace p463 := eq_true p463
             replace q463 := eq_true q463
             have p464 : 0 ≤ (x6_2 : Int) := od
             have q464 : x6_2 < (l0.length : Int) := od
             obtain ⟨ad464, e464, hx464_0, hx464_1⟩ := at_T113 HR0.out x6_2 p464 q464
             have hw464_1 := hx464_1
             have hw464_0 := hx464_0
             cases e464
             replace hx464_0 := kc HB hx464_0
             replace hx464_1 := kc HB hx464_1
             replace p464 := eq_true p464
             replace q464 := eq_true q464
             refine start_ (n := 17) (S := fun w' => w'.cell? (ad463.add ((x7_3).toNat * 2)) = some (.string ((rd_T113 x5_2 x7_3).f0)) ∧ w'.cell? ⟨(ad463.add ((x7_3).toNat * 2)).block, (ad463.add ((x7_3).toNat * 2)).off + 1, none⟩ = some (.string ((rd_T113 x5_2 x7_3).f1)) ∧ w'.cell? (ad464.add ((x6_2).toNat * 2)) = some (.string ((rd_T113 l0 x6_2).f0)) ∧ w'.cell? ⟨(ad464.add ((x6_2).toNat * 2)).block, (ad464.add ((x6_2).toNat * 2)).off + 1, none⟩ = some (.string ((rd_T113 l0 x6_2).f1))) (ds := []) _ (by kernel_rfl) rfl rfl ⟨hx463_0, hx463_1, (kc HB hw464_0), (kc HB hw464_1)⟩ (fun hHeld => ?_); refine with_tabW r03_Canon.tab13 r03_Canon.bits13 (fun HT_ HW_ => ?_)
             generalize wr.drew = w18 at HO_5 HB hx463_0 hx463_1 hx464_0 hx464_1 hHeld ⊢
             refine p1 0 (some 30) ?_
             refine p1 1 (some 31) ?_
             refine p1 2 (some 32) ?_
             refine p1 3 (some 33) ?_
             refine p1 4 (some 34) ?_
             refine p1 5 (some 35) ?_
             refine p1 6 (some 36) ?_
             refine p1 7 (some 37) ?_
             refine p1 8 (some 38) ?_
             refine p1 10 (some 40) ?_
             refine p1 11 (some 41) ?_
             refine p1 12 (some 42) ?_
             refine p1 13 (some 43) ?_
             refine t1 9 (some 39) rfl rfl hHeld (Or.inl ⟨by rfl, by rintro w' ⟨s0, s1, s2, s3⟩; go_simp; with_reducible rfl⟩) ?_
             refine t1 14 (some 44) rfl rfl hHeld (Or.inl ⟨by rfl, by rintro w' ⟨s0, s1, s2, s3⟩; go_simp; with_reducible rfl⟩) ?_
             refine p1 15 (some 45) ?_
             refine p1 16 (some 46) ?_
             refine done_ (done_of HT_.out (by kernel_rfl)) ?_
             try go_wp2
             replace HO_5 := Aside0.mk (Kd.R_drew HO_5.out)
             replace HB := Aside0.mk (below_drew1 HB.out)
             have p465 : 0 ≤ (x7_3 : Int) := od
             have q465 : x7_3 < (x5_2.length : Int) := od
             obtain ⟨ad465, e465, hx465_0, hx465_1⟩ := at_T113 (Kd.R_reads' HO_5.out).2.2 x7_3 p465 q465
             obtain rfl : ad463 = ad465 := (by injection e465)
             replace p465 := eq_true p465
             replace q465 := eq_true q465
             have p466 : 0 ≤ (x6_2 : Int) := od
             have q466 : x6_2 < (l0.length : Int) := od
             obtain ⟨ad466, e466, hx466_0, hx466_1⟩ := at_T113 HR0.out x6_2 p466 q466
             have hw466_1 := hx466_1
             have hw466_0 := hx466_0
             obtain rfl : ad464 = ad466 := (by injection e466)
             replace hx466_0 := kc HB hx466_0
             replace hx466_1 := kc HB hx466_1
             replace p466 := eq_true p466
             replace q466 := eq_true q466
             refine start_ (n := 17) (S := fun w' => w'.cell? (ad463.add ((x7_3).toNat * 2)) = some (.string ((rd_T113 x5_2 x7_3).f0)) ∧ w'.cell? ⟨(ad463.add ((x7_3).toNat * 2)).block, (ad463.add ((x7_3).toNat * 2)).off + 1, none⟩ = some (.string ((rd_T113 x5_2 x7_3).f1)) ∧ w'.cell? (ad464.add ((x6_2).toNat * 2)) = some (.string ((rd_T113 l0 x6_2).f0)) ∧ w'.cell? ⟨(ad464.add ((x6_2).toNat * 2)).block, (ad464.add ((x6_2).toNat * 2)).off + 1, none⟩ = some (.string ((rd_T113 l0 x6_2).f1))) (ds := []) _ (by kernel_rfl) rfl rfl ⟨hx465_0, hx465_1, (kc HB hw466_0), (kc HB hw466_1)⟩ (fun hHeld => ?_); refine with_tabW r03_Canon.tab15 r03_Canon.bits15 (fun HT_ HW_ => ?_)
             generalize w18.drew = w20 at HO_5 HB hx465_0 hx465_1 hx466_0 hx466_1 hHeld ⊢
             refine p1 0 (some 49) ?_
             refine p1 1 (some 50) ?_
             refine p1 2 (some 51) ?_
             refine p1 3 (some 52) ?_
             refine p1 4 (some 53) ?_
             refine p1 5 (some 54) ?_
             refine p1 6 (some 55) ?_
             refine p1 7 (some 56) ?_
             refine p1 8 (some 57) ?_
             refine p1 10 (some 59) ?_
             refine p1 11 (some 60) ?_
             refine p1 12 (some 61) ?_
             refine p1 13 (some 62) ?_
             refine t1 9 (some 58) rfl rfl hHeld (Or.inl ⟨by rfl, by rintro w' ⟨s0, s1, s2, s3⟩; go_simp; with_reducible rfl⟩) ?_
             refine t1 14 (some 63) rfl rfl hHeld (Or.inl ⟨by rfl, by rintro w' ⟨s0, s1, s2, s3⟩; go_simp; with_reducible rfl⟩) ?_
             refine p1 15 (some 64) ?_
             refine p1 16 (some 65) ?_
             refine done_ (done_of HT_.out (by kernel_rfl)) ?_
             try go_wp2
             go_ret2
             exact ⟨_, re_, nl_, uW HB.out⟩
            ·
             rw [if_neg c17] at H
             have c17b0 : (((rd_T113 x5_2 x7_3).f0).toList == ((rd_T113 l0 x6_2).f0).toList) = false := beq_eq_false_iff_ne.mpr c17
             have c17b1 : (((rd_T113 x5_2 x7_3).f0).toList != ((rd_T113 l0 x6_2).f0).toList) = true := bne_iff_ne.mpr c17
             obtain ⟨y467, Ny467, H⟩ := ys H
             try dsimp only at H
             have c21b0 := eq_true (od : 0 ≤ x7_3)
             obtain ⟨c22, H⟩ := gd H
             have c22b0 := eq_true c22
             have c22b1 : decide (x7_3 ≤ (x5_2.length : Int)) = true := decide_eq_true c22
             clear c22
             obtain ⟨y470, Ny470, H⟩ := ys H
             try dsimp only at H
             obtain ⟨c23, H⟩ := gd H
             have LMc23 := Aside0.mk c23
             clear c23
             obtain ⟨y474, Ny474, H⟩ := ys H
             try dsimp only at H
             have c24b0 := eq_true (od : x7_3 ≤ (x5_2.length : Int))
             obtain ⟨y477, Ny477, H⟩ := ys H
             try dsimp only at H
             obtain ⟨c25, H⟩ := gd H
             have LMc25 := Aside0.mk c25
             clear c25
             obtain ⟨y481, Ny481, H⟩ := ys H
             try dsimp only at H
             obtain ⟨c26, H⟩ := gd H
             have LMc26 := Aside0.mk c26
             clear c26
             obtain ⟨y484, hy484⟩ : ∃ y_ : List (S113), y_ = (y481 ++ y474) := ⟨_, rfl⟩
             replace H : (r03_Canon.l1 k3 l0 y484 (wrap64 (x6_2 + 1))) = some (r1, r2) := by first | (rw [hy484]; with_reducible exact H) | (have H2_ := (Option.bind_some _ _).symm.trans H; rw [hy484]; with_reducible exact H2_) | (have H2_ := (Option.bind_some _ _).symm.trans H; with_reducible exact H2_) | with_reducible exact H | (rw [hy484]; exact H) | exact H
             have Ny484 := Aside0.mk hy484
             clear hy484
             have H' := Aside0.mk H
             clear H
             try go_wp2
             replace HO_5 := Aside0.mk (Kd.R_drew HO_5.out)
             replace HB := Aside0.mk (below_drew1 HB.out)
             obtain ⟨Ao28, co28, eo28⟩ := Kd.R_slice HO_5.out
             (first | subst eo28 | (injection eo28 with f1_ f2_ f3_; have f4_ := f1_.symm; have f5_ := f3_.symm; clear f1_ f2_ f3_; subst f4_; subst f5_))
             have p463 : 0 ≤ (x7_3 : Int) := od
             have q463 : x7_3 < (x5_2.length : Int) := od
             obtain ⟨ad463, e463, hx463_0, hx463_1⟩ := at_T113 (Kd.R_reads' HO_5.out).2.2 x7_3 p463 q463
             cases e463
             replace p463 := eq_true p463
             replace q463 := eq_true q463
             have p464 : 0 ≤ (x6_2 : Int) := od
             have q464 : x6_2 < (l0.length : Int) := od
             obtain ⟨ad464, e464, hx464_0, hx464_1⟩ := at_T113 HR0.out x6_2 p464 q464
             have hw464_1 := hx464_1
             have hw464_0 := hx464_0
             cases e464
             replace hx464_0 := kc HB hx464_0
             replace hx464_1 := kc HB hx464_1
             replace p464 := eq_true p464
             replace q464 := eq_true q464
             refine start_ (n := 17) (S := fun w' => w'.cell? (ad463.add ((x7_3).toNat * 2)) = some (.string ((rd_T113 x5_2 x7_3).f0)) ∧ w'.cell? ⟨(ad463.add ((x7_3).toNat * 2)).block, (ad463.add ((x7_3).toNat * 2)).off + 1, none⟩ = some (.string ((rd_T113 x5_2 x7_3).f1)) ∧ w'.cell? (ad464.add ((x6_2).toNat * 2)) = some (.string ((rd_T113 l0 x6_2).f0)) ∧ w'.cell? ⟨(ad464.add ((x6_2).toNat * 2)).block, (ad464.add ((x6_2).toNat * 2)).off + 1, none⟩ = some (.string ((rd_T113 l0 x6_2).f1))) (ds := []) _ (by kernel_rfl) rfl rfl ⟨hx463_0, hx463_1, (kc HB hw464_0), (kc HB hw464_1)⟩ (fun hHeld => ?_); refine with_tabW r03_Canon.tab13 r03_Canon.bits13 (fun HT_ HW_ => ?_)
             generalize wr.drew = w27 at HO_5 HB hx463_0 hx463_1 hx464_0 hx464_1 hHeld ⊢
             refine p1 0 (some 30) ?_
             refine p1 1 (some 31) ?_
             refine p1 2 (some 32) ?_
             refine p1 3 (some 33) ?_
             refine p1 4 (some 34) ?_
             refine p1 5 (some 35) ?_
             refine p1 6 (some 36) ?_
             refine p1 7 (some 37) ?_
             refine p1 8 (some 38) ?_
             refine p1 10 (some 40) ?_
             refine p1 11 (some 41) ?_
             refine p1 12 (some 42) ?_
             refine p1 13 (some 43) ?_
             refine t1 9 (some 39) rfl rfl hHeld (Or.inl ⟨by rfl, by rintro w' ⟨s0, s1, s2, s3⟩; go_simp; with_reducible rfl⟩) ?_
             refine t1 14 (some 44) rfl rfl hHeld (Or.inl ⟨by rfl, by rintro w' ⟨s0, s1, s2, s3⟩; go_simp; with_reducible rfl⟩) ?_
             refine p1 15 (some 45) ?_
             refine p1 16 (some 46) ?_
             refine done_ (done_of HT_.out (by kernel_rfl)) ?_
             try go_wp2
             replace HO_5 := Aside0.mk (Kd.R_drew HO_5.out)
             replace HB := Aside0.mk (below_drew1 HB.out)
             have p465 : 0 ≤ (x7_3 : Int) := od
             have q465 : x7_3 < (x5_2.length : Int) := od
             obtain ⟨ad465, e465, hx465_0, hx465_1⟩ := at_T113 (Kd.R_reads' HO_5.out).2.2 x7_3 p465 q465
             obtain rfl : ad463 = ad465 := (by injection e465)
             replace p465 := eq_true p465
             replace q465 := eq_true q465
             have p466 : 0 ≤ (x6_2 : Int) := od
             have q466 : x6_2 < (l0.length : Int) := od
             obtain ⟨ad466, e466, hx466_0, hx466_1⟩ := at_T113 HR0.out x6_2 p466 q466
             have hw466_1 := hx466_1
             have hw466_0 := hx466_0
             obtain rfl : ad464 = ad466 := (by injection e466)
             replace hx466_0 := kc HB hx466_0
             replace hx466_1 := kc HB hx466_1
             replace p466 := eq_true p466
             replace q466 := eq_true q466
             refine start_ (n := 17) (S := fun w' => w'.cell? (ad463.add ((x7_3).toNat * 2)) = some (.string ((rd_T113 x5_2 x7_3).f0)) ∧ w'.cell? ⟨(ad463.add ((x7_3).toNat * 2)).block, (ad463.add ((x7_3).toNat * 2)).off + 1, none⟩ = some (.string ((rd_T113 x5_2 x7_3).f1)) ∧ w'.cell? (ad464.add ((x6_2).toNat * 2)) = some (.string ((rd_T113 l0 x6_2).f0)) ∧ w'.cell? ⟨(ad464.add ((x6_2).toNat * 2)).block, (ad464.add ((x6_2).toNat * 2)).off + 1, none⟩ = some (.string ((rd_T113 l0 x6_2).f1))) (ds := []) _ (by kernel_rfl) rfl rfl ⟨hx465_0, hx465_1, (kc HB hw466_0), (kc HB hw466_1)⟩ (fun hHeld => ?_); refine with_tabW r03_Canon.tab15 r03_Canon.bits15 (fun HT_ HW_ => ?_)
             generalize w27.drew = w29 at HO_5 HB hx465_0 hx465_1 hx466_0 hx466_1 hHeld ⊢
             refine p1 0 (some 49) ?_
             refine p1 1 (some 50) ?_
             refine p1 2 (some 51) ?_
             refine p1 3 (some 52) ?_
             refine p1 4 (some 53) ?_
             refine p1 5 (some 54) ?_
             refine p1 6 (some 55) ?_
             refine p1 7 (some 56) ?_
             refine p1 8 (some 57) ?_
             refine p1 10 (some 59) ?_
             refine p1 11 (some 60) ?_
             refine p1 12 (some 61) ?_
             refine p1 13 (some 62) ?_
             refine t1 9 (some 58) rfl rfl hHeld (Or.inl ⟨by rfl, by rintro w' ⟨s0, s1, s2, s3⟩; go_simp; with_reducible rfl⟩) ?_
             refine t1 14 (some 63) rfl rfl hHeld (Or.inl ⟨by rfl, by rintro w' ⟨s0, s1, s2, s3⟩; go_simp; with_reducible rfl⟩) ?_
             refine p1 15 (some 64) ?_
             refine p1 16 (some 65) ?_
             refine done_ (done_of HT_.out (by kernel_rfl)) ?_
             try go_wp2_with (first | ((with_reducible refine gate_dst (N := 66) rfl ?_); refine Kd.R_lit k113 _ 113 ?hg (N := 66) ?hd (xs := ([] : List (S113))) (inner := []) (ok := fun _ => True) (okp := fun _ => True) ?hr ?hp (fun _ hk => hk) trivial (Below.refl _ _) (Nat.le_refl _) (by simp) ?_; (case hd => rfl); (case hg => rfl); (case hr => first | (go_simp; done) | (go_simp; rfl)); (case hp => exact (Reps.none _ _)); intro v468 w30 ho31 hb hg_ hnew_; clear hg_ hnew_; (first | rw [← Ny467.out] at ho31 | (simp only [Int.reduceToNat] at ho31; rw [← Ny467.out] at ho31)); have HO469 := Aside0.mk (Kd.R_lower (Kd.R_new' ho31 (Kd.R_lt (uR HO_5.out))) (below_size (uW HB.out))); replace HO_5 := Aside0.mk (Kd.R_elder' (uR HO_5.out) (Kd.R_base ho31) hb); replace HB := cW HB hb; clear hb ho31; have q32 : (x7_3 : Int) ≤ ((x5_2.length : Int) : Int) := od; obtain ⟨i032, hi032, _, hsz32, _⟩ := info_parts info113; have hroom32 : x5_2.length ≤ co28 := (Kd.R_reads' HO_5.out).2.1; have hC32 : Kd.C k113 _ (some ad463) x5_2.length x5_2 := (Kd.R_reads' HO_5.out).2.2; have q032 : (0 : Int) ≤ (x7_3 : Int) := od; have hcut32 := cut_from (P := Tryz.prog) 92 113 .i64 Tryz.underlying92 hi032 2 hsz32 (some ad463) x5_2.length co28 x7_3 q032 q32; have hr32 := Kd.C_drop (m := (x7_3 : Int).toNat) (c := co28) hC32 (by omega) hroom32; obtain ⟨A32, hA32⟩ : ∃ A1, A1 = (if co28 = (x7_3 : Int).toNat then (some ad463) else ((some ad463) : Option Addr).map (·.add ((x7_3 : Int).toNat * 2))) := ⟨_, rfl⟩; obtain ⟨c32, hc32⟩ : ∃ c1, c1 = co28 - (x7_3 : Int).toNat := ⟨_, rfl⟩; have hy32 : y470.length = x5_2.length - (x7_3 : Int).toNat := (by rw [Ny470.out, List.length_drop] <;> omega); rw [show (x5_2).drop (x7_3 : Int).toNat = y470 from Ny470.out.symm] at hr32; replace hr32 : Kd.C k113 _ A32 y470.length y470 := (by rw [hA32]; exact hr32); rw [← hy32, ← hA32, ← hc32] at hcut32; have HR473 := Aside0.mk hr32; have HC473 := Aside0.mk (show y470.length ≤ c32 from by rw [hy32, hc32]; exact Nat.sub_le_sub_right hroom32 _); clear hr32 hC32 hroom32 hi032 hsz32 hc32; have KY32 := Aside0.mk hy32; have KA32 := Aside0.mk hA32; clear hy32 hA32; have KL32 := Aside0.mk (show (x7_3 : Int).toNat ≤ x5_2.length from by omega); replace q32 := eq_true q32) | ((with_reducible refine gate_builtin (b := .append) (xs := #[.tmp 66, .tmp 69]) rfl ?_); at_builtin; refine Kd.R_append_rows k113 (w0 := w) w.heap.size rfl (.tmp 66) (.tmp 69) 92 113 (.agg #[(.string ⟨#[]⟩), (.string ⟨#[]⟩)]) 32 rfl Tryz.underlying92 info113 rfl (by decide) (by omega) v468 y467 y470 _ _ _ (fun k_ => some k_ ≠ (.slice (some ad463) x5_2.length co28 : Value).ownBlock) (fun _ => False) rfl rfl ?aO ?aR (fun _ _ h => h) (fun _ h => h.elim) ?aF ?aB ?aS ?aL ?_; (case aR => repeat (first | exact (by repeat (first | (with_reducible exact HR473.out) | (with_reducible refine Kd.C_alloc ?_ _) | (with_reducible refine Kd.C_drewN ?_ _) | (with_reducible refine Kd.C_drew ?_) | exact HR473.out)) | (with_reducible refine Kd.C_alloc ?_ _) | (with_reducible refine Kd.C_drewN ?_ _) | (with_reducible refine Kd.C_drew ?_))); (case aB => exact (uW HB.out)); (case aF => exact (fun k_ hk => Kd.fresh' (Kd.R_lt (uR HO_5.out)) k_ hk)); (case aO => exact (by exact uR <| Kd.R_mono HO469.out (fun _ hk => hk.2))); (case aS => exact (below_size (uW HB.out))); (case aL => have := LMc23.out; omega); intro v475 w33 ho hb hg hat; rw [← Ny474.out] at ho; replace HB := Aside0.mk (hb); replace HR473 := Aside0.mk ((show Kd.C k113 w33 A32 y470.length y470 from by rw [Ny470.out, KA32.out]; exact Kd.C_drop (m := (x7_3 : Int).toNat) (c := co28) ((Kd.R_reads' (Kd.R_after (ok := (fun _ => True)) (uR HO_5.out) hg hat)).2.2) KL32.out ((Kd.R_reads' (Kd.R_after (ok := (fun _ => True)) (uR HO_5.out) hg hat)).2.1))); replace HO_5 := Aside0.mk (Kd.R_after (ok := (fun _ => True)) (uR HO_5.out) hg hat); have HO476 := Aside0.mk (ho); clear HO469; clear ho hb hg hat))
             replace HO_5 := Aside0.mk (Kd.R_drew HO_5.out)
             replace HO476 := Aside0.mk (Kd.R_drew HO476.out)
             replace HR473 := Aside0.mk (Kd.C_drew HR473.out)
             replace HB := Aside0.mk (below_drew1 HB.out)
             have q35 : (x7_3 : Int) ≤ ((x5_2.length : Int) : Int) := od
             obtain ⟨i035, hi035, _, hsz35, _⟩ := info_parts info113
             have hcut35 := cut_to (P := Tryz.prog) 92 113 .i64 Tryz.underlying92 hi035 (some ad463) x5_2.length co28 x7_3 (od) q35 (Kd.R_reads' HO_5.out).2.1
             have hr35 := Kd.R_take (m := (x7_3 : Int).toNat) HO_5.out (by omega)
             have hy35 : y477.length = (x7_3 : Int).toNat := (by rw [Ny477.out, List.length_take]; omega)
             rw [← Ny477.out] at hr35
             rw [← hy35] at hr35 hcut35
             clear hy35 hi035 hsz35 HO_5
             have HO479 := Aside0.mk hr35
             clear hr35
             replace q35 := eq_true q35
             have p480 : 0 ≤ (x6_2 : Int) := od
             have q480 : x6_2 < (l0.length : Int) := od
             obtain ⟨ad480, e480, hx480_0, hx480_1⟩ := at_T113 HR0.out x6_2 p480 q480
             have hw480_1 := hx480_1
             have hw480_0 := hx480_0
             obtain rfl : ad464 = ad480 := (by injection e480)
             replace hx480_0 := kc HB hx480_0
             replace hx480_1 := kc HB hx480_1
             replace p480 := eq_true p480
             replace q480 := eq_true q480
             refine start_ (n := 12) (S := fun w' => w'.cell? (ad464.add ((x6_2).toNat * 2)) = some (.string ((rd_T113 l0 x6_2).f0)) ∧ w'.cell? ⟨(ad464.add ((x6_2).toNat * 2)).block, (ad464.add ((x6_2).toNat * 2)).off + 1, none⟩ = some (.string ((rd_T113 l0 x6_2).f1))) (ds := []) _ (by kernel_rfl) rfl rfl ⟨(kc HB hw480_0), (kc HB hw480_1)⟩ (fun hHeld => ?_); refine with_tabW r03_Canon.tab18 r03_Canon.bits18 (fun HT_ HW_ => ?_)
             generalize w33.drew = w34 at HO476 HR473 HB HO479 hx480_0 hx480_1 hHeld ⊢
             refine p1 0 (some 71) ?_
             refine p1 1 (some 72) ?_
             refine p1 2 (some 73) ?_
             refine p1 3 (some 74) ?_
             refine p1 4 (some 75) ?_
             refine p1 5 (some 76) ?_
             refine p1 9 (some 80) ?_
             refine t1 6 (some 77) rfl rfl hHeld (Or.inl ⟨by rfl, by rintro w' ⟨s0, s1⟩; go_simp; with_reducible rfl⟩) ?_
             refine o1 7 (some 78) rfl rfl (fun K hK => ?_)
             refine value_ (w1 := ?_) (v := ?_) (by rfl) rfl ?_ ?_
             rotate_left 2
             ·
              go_simp
              constructor
              ·
               rfl
              ·
               rfl
             refine hK.out _ _ ⟨(World.cell?_alloc_lt _ _ _ (World.block_lt_of_cell? _ _ ((kc HB hw480_0)))).trans ((kc HB hw480_0)), (World.cell?_alloc_lt _ _ _ (World.block_lt_of_cell? _ _ ((kc HB hw480_1)))).trans ((kc HB hw480_1))⟩ (fun hHeld => ?_)
             clear hK K
             refine norm_ (a' := ?_) ?_ ?_
             rotate_left
             ·
              show Act.put _ (some 78) _ = _
              simp only [Act.put, List.setIfInBounds_toArray, List.set_cons_zero, List.set_cons_succ, i64_w, i32_w]
              rfl
             refine o1 8 (some 79) rfl rfl (fun K hK => ?_)
             refine Kd.R_append_step k113 (w0 := w) w.heap.size (by rfl) (.tmp 73) (.tmp 78) 92 113 (.agg #[(.string ⟨#[]⟩), (.string ⟨#[]⟩)]) 32 rfl Tryz.underlying92 info113 rfl (by decide) (by omega) (.slice (some ad463) y477.length co28) y477 (⟨(rd_T113 l0 x6_2).f0, (rd_T113 l0 x6_2).f1⟩ : S113) [.string ((rd_T113 l0 x6_2).f0), .string ((rd_T113 l0 x6_2).f1)] (fun k_ => some k_ ≠ (v475 : Value).ownBlock) (fun _ => False) rfl rfl ?aP (fun _ hk => hk.elim) ?aF ?aO ?aB ?aS ?aL ?_
             (case aP => exact k113_mkM _ _ _ (⟨(rd_T113 l0 x6_2).f0, (rd_T113 l0 x6_2).f1⟩ : S113))
             (case aB => exact (uW HB.out))
             (case aF => exact (fun k_ hk => Kd.fresh' (Kd.R_lt (uR HO476.out)) k_ hk))
             (case aO => exact (by exact uR <| Kd.R_mono HO479.out (fun _ hk => hk.2)))
             (case aS => exact (below_size (uW HB.out)))
             (case aL => have := LMc25.out; omega)
             intro v482 w36 ho hb hg hat
             rw [← Ny481.out] at ho
             replace HO476 := Aside0.mk (Kd.R_after (ok := (fun _ => True)) (by exact uR <| Kd.R_mono HO476.out (fun _ hk => ⟨trivial, hk⟩)) hg hat)
             replace HB := Aside0.mk (hb)
             have HO483 := Aside0.mk (ho)
             clear HO479
             clear ho hb hg hat
             obtain ⟨Ao38, co38, eo38⟩ := Kd.R_slice HO476.out
             (first | subst eo38 | (injection eo38 with f1_ f2_ f3_; have f4_ := f1_.symm; have f5_ := f3_.symm; clear f1_ f2_ f3_; subst f4_; subst f5_))
             refine hK.out _ _ ⟨(kc HB hw480_0), (kc HB hw480_1)⟩ (fun hHeld => ?_)
             clear hK K
             refine norm_ (a' := ?_) ?_ ?_
             rotate_left
             ·
              show Act.put _ (some 79) _ = _
              simp only [Act.put, List.setIfInBounds_toArray, List.set_cons_zero, List.set_cons_succ, i64_w, i32_w]
              rfl
             refine o1 10 (some 81) rfl rfl (fun K hK => ?_)
             refine Kd.R_append_rows_step k113 (w0 := w) w.heap.size (by rfl) (.tmp 79) (.tmp 80) 92 113 (.agg #[(.string ⟨#[]⟩), (.string ⟨#[]⟩)]) 32 rfl Tryz.underlying92 info113 rfl (by decide) (by omega) v482 y481 y474 _ _ _ (fun k_ => some k_ ≠ (.slice Ao38 y474.length co38 : Value).ownBlock) (fun _ => False) rfl rfl ?aO ?aR (fun _ _ h => h) (fun _ h => h.elim) ?aF ?aB ?aS ?aL ?_
             (case aR => exact uC <| (Kd.R_reads' HO476.out).2.2)
             (case aB => exact (uW HB.out))
             (case aF => exact (fun k_ hk => Kd.fresh' (Kd.R_lt (uR HO476.out)) k_ hk))
             (case aO => exact (uR HO483.out))
             (case aS => exact (below_size (uW HB.out)))
             (case aL => have := LMc26.out; omega)
             intro v485 w37 ho hb hg hat
             rw [← Ny484.out] at ho
             replace HO476 := Aside0.mk (Kd.R_after (ok := (fun _ => True)) (uR HO476.out) hg hat)
             replace HB := Aside0.mk (hb)
             have HO486 := Aside0.mk (ho)
             clear HO483
             clear ho hb hg hat
             refine hK.out _ _ ⟨(kc HB hw480_0), (kc HB hw480_1)⟩ (fun hHeld => ?_)
             clear hK K
             refine norm_ (a' := ?_) ?_ ?_
             rotate_left
             ·
              show Act.put _ (some 81) _ = _
              simp only [Act.put, List.setIfInBounds_toArray, List.set_cons_zero, List.set_cons_succ, i64_w, i32_w]
              rfl
             refine p1 11 (some 5) ?_
             refine done_ (done_of HT_.out (by kernel_rfl)) ?_
             try go_wp2
             go_roundg k3
             case measure => have := HK1.out; have := HK2.out; have := HK3.out; omega
             case rel => exact ⟨(y484), (wrap64 (x6_2 + 1)), rs_, H', ⟨by have := HK1.out; have := HK2.out; have := HK3.out; omega⟩, ⟨by exact uR <| Kd.R_mono HO486.out (fun _ hk => trivial)⟩, ⟨uW HB.out⟩⟩
          ·
           rw [if_neg c10] at H
           have c10b0 : decide (x7_3 < (x5_2.length : Int)) = false := decide_eq_false c10
           clear c10
           obtain ⟨y487, Ny487, H⟩ := ys H
           try dsimp only at H
           obtain ⟨c39, H⟩ := gd H
           have c39b0 := eq_true c39
           have c39b1 : decide (0 ≤ x7_3) = true := decide_eq_true c39
           clear c39
           obtain ⟨c40, H⟩ := gd H
           have c40b0 := eq_true c40
           have c40b1 : decide (x7_3 ≤ (x5_2.length : Int)) = true := decide_eq_true c40
           clear c40
           obtain ⟨y490, Ny490, H⟩ := ys H
           try dsimp only at H
           obtain ⟨c41, H⟩ := gd H
           have LMc41 := Aside0.mk c41
           clear c41
           obtain ⟨y494, Ny494, H⟩ := ys H
           try dsimp only at H
           have c42b0 := eq_true (od : x7_3 ≤ (x5_2.length : Int))
           obtain ⟨y497, Ny497, H⟩ := ys H
           try dsimp only at H
           obtain ⟨c43b0, H⟩ := gdd H
           obtain ⟨c44b0, H⟩ := gdd H
           obtain ⟨c45, H⟩ := gd H
           have LMc45 := Aside0.mk c45
           clear c45
           obtain ⟨y501, Ny501, H⟩ := ys H
           try dsimp only at H
           obtain ⟨c46, H⟩ := gd H
           have LMc46 := Aside0.mk c46
           clear c46
           obtain ⟨y504, hy504⟩ : ∃ y_ : List (S113), y_ = (y501 ++ y494) := ⟨_, rfl⟩
           replace H : (r03_Canon.l1 k3 l0 y504 (wrap64 (x6_2 + 1))) = some (r1, r2) := by first | (rw [hy504]; with_reducible exact H) | (have H2_ := (Option.bind_some _ _).symm.trans H; rw [hy504]; with_reducible exact H2_) | (have H2_ := (Option.bind_some _ _).symm.trans H; with_reducible exact H2_) | with_reducible exact H | (rw [hy504]; exact H) | exact H
           have Ny504 := Aside0.mk hy504
           clear hy504
           have H' := Aside0.mk H
           clear H
           try go_wp2
           replace HO_5 := Aside0.mk (Kd.R_drew HO_5.out)
           replace HB := Aside0.mk (below_drew1 HB.out)
           obtain ⟨Ao48, co48, eo48⟩ := Kd.R_slice HO_5.out
           (first | subst eo48 | (injection eo48 with f1_ f2_ f3_; have f4_ := f1_.symm; have f5_ := f3_.symm; clear f1_ f2_ f3_; subst f4_; subst f5_))
           refine start_ (n := 17) (S := fun w' => True) (ds := []) _ (by kernel_rfl) rfl rfl trivial (fun hHeld => ?_); refine with_tabW r03_Canon.tab13 r03_Canon.bits13 (fun HT_ HW_ => ?_)
           generalize wr.drew = w47 at HO_5 HB hHeld ⊢
           refine p1 0 (some 30) ?_
           refine p1 1 (some 31) ?_
           refine p1 2 (some 32) ?_
           refine p1 3 (some 33) ?_
           refine p1 4 (some 34) ?_
           refine p2 5 (some 35) ?_
           refine p2 6 (some 36) ?_
           refine p2 7 (some 37) ?_
           refine p2 8 (some 38) ?_
           refine p2 9 (some 39) ?_
           refine p2 10 (some 40) ?_
           refine p2 11 (some 41) ?_
           refine p2 12 (some 42) ?_
           refine p2 13 (some 43) ?_
           refine p2 14 (some 44) ?_
           refine p2 15 (some 45) ?_
           refine p1 16 (some 46) ?_
           refine done_ (done_of HT_.out (by kernel_rfl)) ?_
           try go_wp2
           replace HO_5 := Aside0.mk (Kd.R_drew HO_5.out)
           replace HB := Aside0.mk (below_drew1 HB.out)
           refine start_ (n := 17) (S := fun w' => True) (ds := []) _ (by kernel_rfl) rfl rfl trivial (fun hHeld => ?_); refine with_tabW r03_Canon.tab15 r03_Canon.bits15 (fun HT_ HW_ => ?_)
           generalize w47.drew = w49 at HO_5 HB hHeld ⊢
           refine p1 0 (some 49) ?_
           refine p1 1 (some 50) ?_
           refine p1 2 (some 51) ?_
           refine p1 3 (some 52) ?_
           refine p1 4 (some 53) ?_
           refine p2 5 (some 54) ?_
           refine p2 6 (some 55) ?_
           refine p2 7 (some 56) ?_
           refine p2 8 (some 57) ?_
           refine p2 9 (some 58) ?_
           refine p2 10 (some 59) ?_
           refine p2 11 (some 60) ?_
           refine p2 12 (some 61) ?_
           refine p2 13 (some 62) ?_
           refine p2 14 (some 63) ?_
           refine p2 15 (some 64) ?_
           refine p1 16 (some 65) ?_
           refine done_ (done_of HT_.out (by kernel_rfl)) ?_
           try go_wp2_with (first | ((with_reducible refine gate_dst (N := 66) rfl ?_); refine Kd.R_lit k113 _ 113 ?hg (N := 66) ?hd (xs := ([] : List (S113))) (inner := []) (ok := fun _ => True) (okp := fun _ => True) ?hr ?hp (fun _ hk => hk) trivial (Below.refl _ _) (Nat.le_refl _) (by simp) ?_; (case hd => rfl); (case hg => rfl); (case hr => first | (go_simp; done) | (go_simp; rfl)); (case hp => exact (Reps.none _ _)); intro v488 w50 ho51 hb hg_ hnew_; clear hg_ hnew_; (first | rw [← Ny487.out] at ho51 | (simp only [Int.reduceToNat] at ho51; rw [← Ny487.out] at ho51)); have HO489 := Aside0.mk (Kd.R_lower (Kd.R_new' ho51 (Kd.R_lt (uR HO_5.out))) (below_size (uW HB.out))); replace HO_5 := Aside0.mk (Kd.R_elder' (uR HO_5.out) (Kd.R_base ho51) hb); replace HB := cW HB hb; clear hb ho51; have q52 : (x7_3 : Int) ≤ ((x5_2.length : Int) : Int) := od; obtain ⟨i052, hi052, _, hsz52, _⟩ := info_parts info113; have hroom52 : x5_2.length ≤ co48 := (Kd.R_reads' HO_5.out).2.1; have hC52 : Kd.C k113 _ Ao48 x5_2.length x5_2 := (Kd.R_reads' HO_5.out).2.2; have q052 : (0 : Int) ≤ (x7_3 : Int) := od; have hcut52 := cut_from (P := Tryz.prog) 92 113 .i64 Tryz.underlying92 hi052 2 hsz52 Ao48 x5_2.length co48 x7_3 q052 q52; have hr52 := Kd.C_drop (m := (x7_3 : Int).toNat) (c := co48) hC52 (by omega) hroom52; obtain ⟨A52, hA52⟩ : ∃ A1, A1 = (if co48 = (x7_3 : Int).toNat then Ao48 else (Ao48 : Option Addr).map (·.add ((x7_3 : Int).toNat * 2))) := ⟨_, rfl⟩; obtain ⟨c52, hc52⟩ : ∃ c1, c1 = co48 - (x7_3 : Int).toNat := ⟨_, rfl⟩; have hy52 : y490.length = x5_2.length - (x7_3 : Int).toNat := (by rw [Ny490.out, List.length_drop] <;> omega); rw [show (x5_2).drop (x7_3 : Int).toNat = y490 from Ny490.out.symm] at hr52; replace hr52 : Kd.C k113 _ A52 y490.length y490 := (by rw [hA52]; exact hr52); rw [← hy52, ← hA52, ← hc52] at hcut52; have HR493 := Aside0.mk hr52; have HC493 := Aside0.mk (show y490.length ≤ c52 from by rw [hy52, hc52]; exact Nat.sub_le_sub_right hroom52 _); clear hr52 hC52 hroom52 hi052 hsz52 hc52; have KY52 := Aside0.mk hy52; have KA52 := Aside0.mk hA52; clear hy52 hA52; have KL52 := Aside0.mk (show (x7_3 : Int).toNat ≤ x5_2.length from by omega); replace q52 := eq_true q52) | ((with_reducible refine gate_builtin (b := .append) (xs := #[.tmp 66, .tmp 69]) rfl ?_); at_builtin; refine Kd.R_append_rows k113 (w0 := w) w.heap.size rfl (.tmp 66) (.tmp 69) 92 113 (.agg #[(.string ⟨#[]⟩), (.string ⟨#[]⟩)]) 32 rfl Tryz.underlying92 info113 rfl (by decide) (by omega) v488 y487 y490 _ _ _ (fun k_ => some k_ ≠ (.slice Ao48 x5_2.length co48 : Value).ownBlock) (fun _ => False) rfl rfl ?aO ?aR (fun _ _ h => h) (fun _ h => h.elim) ?aF ?aB ?aS ?aL ?_; (case aR => repeat (first | exact (by repeat (first | (with_reducible exact HR493.out) | (with_reducible refine Kd.C_alloc ?_ _) | (with_reducible refine Kd.C_drewN ?_ _) | (with_reducible refine Kd.C_drew ?_) | exact HR493.out)) | (with_reducible refine Kd.C_alloc ?_ _) | (with_reducible refine Kd.C_drewN ?_ _) | (with_reducible refine Kd.C_drew ?_))); (case aB => exact (uW HB.out)); (case aF => exact (fun k_ hk => Kd.fresh' (Kd.R_lt (uR HO_5.out)) k_ hk)); (case aO => exact (by exact uR <| Kd.R_mono HO489.out (fun _ hk => hk.2))); (case aS => exact (below_size (uW HB.out))); (case aL => have := LMc41.out; omega); intro v495 w53 ho hb hg hat; rw [← Ny494.out] at ho; replace HB := Aside0.mk (hb); replace HR493 := Aside0.mk ((show Kd.C k113 w53 A52 y490.length y490 from by rw [Ny490.out, KA52.out]; exact Kd.C_drop (m := (x7_3 : Int).toNat) (c := co48) ((Kd.R_reads' (Kd.R_after (ok := (fun _ => True)) (uR HO_5.out) hg hat)).2.2) KL52.out ((Kd.R_reads' (Kd.R_after (ok := (fun _ => True)) (uR HO_5.out) hg hat)).2.1))); replace HO_5 := Aside0.mk (Kd.R_after (ok := (fun _ => True)) (uR HO_5.out) hg hat); have HO496 := Aside0.mk (ho); clear HO489; clear ho hb hg hat))
           replace HO_5 := Aside0.mk (Kd.R_drew HO_5.out)
           replace HO496 := Aside0.mk (Kd.R_drew HO496.out)
           replace HR493 := Aside0.mk (Kd.C_drew HR493.out)
           replace HB := Aside0.mk (below_drew1 HB.out)
           have q55 : (x7_3 : Int) ≤ ((x5_2.length : Int) : Int) := od
           obtain ⟨i055, hi055, _, hsz55, _⟩ := info_parts info113
           have hcut55 := cut_to (P := Tryz.prog) 92 113 .i64 Tryz.underlying92 hi055 Ao48 x5_2.length co48 x7_3 (od) q55 (Kd.R_reads' HO_5.out).2.1
           have hr55 := Kd.R_take (m := (x7_3 : Int).toNat) HO_5.out (by omega)
           have hy55 : y497.length = (x7_3 : Int).toNat := (by rw [Ny497.out, List.length_take]; omega)
           rw [← Ny497.out] at hr55
           rw [← hy55] at hr55 hcut55
           clear hy55 hi055 hsz55 HO_5
           have HO499 := Aside0.mk hr55
           clear hr55
           replace q55 := eq_true q55
           have p500 : 0 ≤ (x6_2 : Int) := od
           have q500 : x6_2 < (l0.length : Int) := od
           obtain ⟨ad500, e500, hx500_0, hx500_1⟩ := at_T113 HR0.out x6_2 p500 q500
           have hw500_1 := hx500_1
           have hw500_0 := hx500_0
           cases e500
           replace hx500_0 := kc HB hx500_0
           replace hx500_1 := kc HB hx500_1
           replace p500 := eq_true p500
           replace q500 := eq_true q500
           refine start_ (n := 12) (S := fun w' => w'.cell? (ad500.add ((x6_2).toNat * 2)) = some (.string ((rd_T113 l0 x6_2).f0)) ∧ w'.cell? ⟨(ad500.add ((x6_2).toNat * 2)).block, (ad500.add ((x6_2).toNat * 2)).off + 1, none⟩ = some (.string ((rd_T113 l0 x6_2).f1))) (ds := []) _ (by kernel_rfl) rfl rfl ⟨(kc HB hw500_0), (kc HB hw500_1)⟩ (fun hHeld => ?_); refine with_tabW r03_Canon.tab18 r03_Canon.bits18 (fun HT_ HW_ => ?_)
           generalize w53.drew = w54 at HO496 HR493 HB HO499 hx500_0 hx500_1 hHeld ⊢
           refine p1 0 (some 71) ?_
           refine p1 1 (some 72) ?_
           refine p1 2 (some 73) ?_
           refine p1 3 (some 74) ?_
           refine p1 4 (some 75) ?_
           refine p1 5 (some 76) ?_
           refine p1 9 (some 80) ?_
           refine t1 6 (some 77) rfl rfl hHeld (Or.inl ⟨by rfl, by rintro w' ⟨s0, s1⟩; go_simp; with_reducible rfl⟩) ?_
           refine o1 7 (some 78) rfl rfl (fun K hK => ?_)
           refine value_ (w1 := ?_) (v := ?_) (by rfl) rfl ?_ ?_
           rotate_left 2
           ·
            go_simp
            constructor
            ·
             rfl
            ·
             rfl
           refine hK.out _ _ ⟨(World.cell?_alloc_lt _ _ _ (World.block_lt_of_cell? _ _ ((kc HB hw500_0)))).trans ((kc HB hw500_0)), (World.cell?_alloc_lt _ _ _ (World.block_lt_of_cell? _ _ ((kc HB hw500_1)))).trans ((kc HB hw500_1))⟩ (fun hHeld => ?_)
           clear hK K
           refine norm_ (a' := ?_) ?_ ?_
           rotate_left
           ·
            show Act.put _ (some 78) _ = _
            simp only [Act.put, List.setIfInBounds_toArray, List.set_cons_zero, List.set_cons_succ, i64_w, i32_w]
            rfl
           refine o1 8 (some 79) rfl rfl (fun K hK => ?_)
           refine Kd.R_append_step k113 (w0 := w) w.heap.size (by rfl) (.tmp 73) (.tmp 78) 92 113 (.agg #[(.string ⟨#[]⟩), (.string ⟨#[]⟩)]) 32 rfl Tryz.underlying92 info113 rfl (by decide) (by omega) (.slice Ao48 y497.length co48) y497 (⟨(rd_T113 l0 x6_2).f0, (rd_T113 l0 x6_2).f1⟩ : S113) [.string ((rd_T113 l0 x6_2).f0), .string ((rd_T113 l0 x6_2).f1)] (fun k_ => some k_ ≠ (v495 : Value).ownBlock) (fun _ => False) rfl rfl ?aP (fun _ hk => hk.elim) ?aF ?aO ?aB ?aS ?aL ?_
           (case aP => exact k113_mkM _ _ _ (⟨(rd_T113 l0 x6_2).f0, (rd_T113 l0 x6_2).f1⟩ : S113))
           (case aB => exact (uW HB.out))
           (case aF => exact (fun k_ hk => Kd.fresh' (Kd.R_lt (uR HO496.out)) k_ hk))
           (case aO => exact (by exact uR <| Kd.R_mono HO499.out (fun _ hk => hk.2)))
           (case aS => exact (below_size (uW HB.out)))
           (case aL => have := LMc45.out; omega)
           intro v502 w56 ho hb hg hat
           rw [← Ny501.out] at ho
           replace HO496 := Aside0.mk (Kd.R_after (ok := (fun _ => True)) (by exact uR <| Kd.R_mono HO496.out (fun _ hk => ⟨trivial, by first | exact hk | (revert hk; cases Ao48 <;> exact id)⟩)) hg hat)
           replace HB := Aside0.mk (hb)
           have HO503 := Aside0.mk (ho)
           clear HO499
           clear ho hb hg hat
           obtain ⟨Ao58, co58, eo58⟩ := Kd.R_slice HO496.out
           (first | subst eo58 | (injection eo58 with f1_ f2_ f3_; have f4_ := f1_.symm; have f5_ := f3_.symm; clear f1_ f2_ f3_; subst f4_; subst f5_))
           refine hK.out _ _ ⟨(kc HB hw500_0), (kc HB hw500_1)⟩ (fun hHeld => ?_)
           clear hK K
           refine norm_ (a' := ?_) ?_ ?_
           rotate_left
           ·
            show Act.put _ (some 79) _ = _
            simp only [Act.put, List.setIfInBounds_toArray, List.set_cons_zero, List.set_cons_succ, i64_w, i32_w]
            rfl
           refine o1 10 (some 81) rfl rfl (fun K hK => ?_)
           refine Kd.R_append_rows_step k113 (w0 := w) w.heap.size (by rfl) (.tmp 79) (.tmp 80) 92 113 (.agg #[(.string ⟨#[]⟩), (.string ⟨#[]⟩)]) 32 rfl Tryz.underlying92 info113 rfl (by decide) (by omega) v502 y501 y494 _ _ _ (fun k_ => some k_ ≠ (.slice Ao58 y494.length co58 : Value).ownBlock) (fun _ => False) rfl rfl ?aO ?aR (fun _ _ h => h) (fun _ h => h.elim) ?aF ?aB ?aS ?aL ?_
           (case aR => exact uC <| (Kd.R_reads' HO496.out).2.2)
           (case aB => exact (uW HB.out))
           (case aF => exact (fun k_ hk => Kd.fresh' (Kd.R_lt (uR HO496.out)) k_ hk))
           (case aO => exact (uR HO503.out))
           (case aS => exact (below_size (uW HB.out)))
           (case aL => have := LMc46.out; omega)
           intro v505 w57 ho hb hg hat
           rw [← Ny504.out] at ho
           replace HO496 := Aside0.mk (Kd.R_after (ok := (fun _ => True)) (uR HO496.out) hg hat)
           replace HB := Aside0.mk (hb)
           have HO506 := Aside0.mk (ho)
           clear HO503
           clear ho hb hg hat
           refine hK.out _ _ ⟨(kc HB hw500_0), (kc HB hw500_1)⟩ (fun hHeld => ?_)
           clear hK K
           refine norm_ (a' := ?_) ?_ ?_
           rotate_left
           ·
            show Act.put _ (some 81) _ = _
            simp only [Act.put, List.setIfInBounds_toArray, List.set_cons_zero, List.set_cons_succ, i64_w, i32_w]
            rfl
           refine p1 11 (some 5) ?_
           refine done_ (done_of HT_.out (by kernel_rfl)) ?_
           try go_wp2
           go_roundg k3
           case measure => have := HK1.out; have := HK2.out; have := HK3.out; omega
           case rel => exact ⟨(y504), (wrap64 (x6_2 + 1)), rs_, H', ⟨by have := HK1.out; have := HK2.out; have := HK3.out; omega⟩, ⟨by exact uR <| Kd.R_mono HO506.out (fun _ hk => trivial)⟩, ⟨uW HB.out⟩⟩
       ·
        rw [if_neg c9] at H
        have c9b0 : decide (x6_2 < (l0.length : Int)) = false := decide_eq_false c9
        clear c9
        simp only [Option.some.injEq, Prod.mk.injEq] at H
        obtain ⟨rfl, rfl⟩ := H
        go_wp2
        go_ret2
        exact ⟨_, re_, uR HO_5.out, uW HB.out⟩
def r03_Parse.l0 : Nat → List (S113) → List ByteArray → Int → Option ((List (S113)) × Int)
 | 0, _, _, _ => none
 | k + 1, x4, x5, x6 => if x6 < (x5.length : Int) then (if 0 ≤ x6 then ((r02_Split.f k (rdOf ByteArray.empty x5 x6) 61).bind fun t515 => (if (t515.length : Int) < 2 then (some (([] : List (S113)), 2)) else (if 0 < (t515.length : Int) then (if 1 ≤ (t515.length : Int) then ((r02_Join.f k (⟨#[61]⟩ : ByteArray) (t515.drop 1)).bind fun t523 => (if x4.length < 4398046511104 then (r03_Parse.l0 k (x4 ++ [(⟨rdOf ByteArray.empty t515 0, t523⟩ : S113)]) x5 (wrap64 (x6 + 1))) else (none))) else (none)) else (none)))) else (none)) else ((r03_Canon.f k x4).bind fun bt510 => (some (bt510.1, bt510.2)))
def r03_Parse.f (k : Nat) (a0 : ByteArray) : Option ((List (S113)) × Int) := if a0.toList = ([] : List UInt8) then (some (([] : List (S113)), 0)) else ((r02_Split.f k a0 44).bind fun t507 => (r03_Parse.l0 k ([] : List (S113)) t507 0))
theorem r03_Parse.mono_l : ∀ k, (∀ y0 y1 y2, LeC (r03_Parse.l0 k y0 y1 y2) (r03_Parse.l0 (k + 1) y0 y1 y2))
 | 0 => fun _ _ _ => ⟨fun r h => by simp [r03_Parse.l0] at h⟩
 | k + 1 => by have ih0 := r03_Parse.mono_l k; exact fun _ _ _ => by unfold r03_Parse.l0; exact lm
theorem r03_Parse.mono : ∀ a0 k, LeO (r03_Parse.f k a0) (r03_Parse.f (k + 1) a0) := by
 intro a0 k
 have ih0 := r03_Parse.mono_l k
 unfold r03_Parse.f
 exact lo
instance r03_Parse.mI {a0 k} : LeC (r03_Parse.f k a0) (r03_Parse.f (k + 1) a0) := ⟨r03_Parse.mono _ _⟩
def r03_Parse.T11 : Bool × List (List Nat × List Nat) := (true, [([], []), ([], []), ([1], [1]), ([2], [2]), ([], []), ([4], [4]), ([5], [5]), ([3, 6], [3, 6]), ([7], [7]), ([0, 8, 6], [0, 8]), ([9, 9, 0, 1, 2, 3, 4, 5, 6, 7, 8, 9], [0, 9])])
def r03_Parse.B11 : List Nat := [0, 0, 2, 6, 0, 16, 48, 126, 254, 511, 1023]
theorem r03_Parse.tab11 : rtab .any (opsOf Tryz.f75 11) = r03_Parse.T11 := by kernel_rfl
theorem r03_Parse.bits11 : waitsOk r03_Parse.T11.2 r03_Parse.B11 = true := by kernel_rfl
theorem r03_Parse.calls (k : Nat) (a0 : ByteArray) (r1 : List (S113)) (r2 : Int) (w : World) (h : r03_Parse.f k a0 = some (r1, r2)) :
 Calls Tryz.prog 75 #[.string a0] w fun e w' => ∃ v0_ : Value, e = .returned (.tuple #[v0_, .int .i64 r2]) ∧ Kd.R k113 113 w' w.heap.size (fun _ => True) v0_ r1 ∧ Below w.heap.size w w' := by
 have hu113 := Tryz.underlying113
 have HB := Aside0.mk (Below.refl w.heap.size w)
 have H : (if a0.toList = ([] : List UInt8) then (some (([] : List (S113)), 0)) else ((r02_Split.f k a0 44).bind fun t507 => (r03_Parse.l0 k ([] : List (S113)) t507 0))) = some (r1, r2) := h
 clear h
 by_cases c2 : a0.toList = ([] : List UInt8)
 ·
  rw [if_pos c2] at H
  have c2b0 : (a0.toList == ([] : List UInt8)) = true := beq_iff_eq.mpr c2
  have c2b1 : (a0.toList != ([] : List UInt8)) = false := bne_eq_false_iff_eq.mpr c2
  clear c2
  simp only [Option.some.injEq, Prod.mk.injEq] at H
  obtain ⟨rfl, rfl⟩ := H
  go_enter Tryz.func75, Tryz.ntmps75
  go_wp2
  go_ret2
  exact ⟨_, re_, nl_, uW HB.out⟩
 ·
  rw [if_neg c2] at H
  have c2b0 : (a0.toList == ([] : List UInt8)) = false := beq_eq_false_iff_ne.mpr c2
  have c2b1 : (a0.toList != ([] : List UInt8)) = true := bne_iff_ne.mpr c2
  obtain ⟨t507, A3, H⟩ := bs H
  try dsimp only at H
  have H' := Aside0.mk H
  clear H
  go_enter Tryz.func75, Tryz.ntmps75
  go_wp2_with (first | (refine gL (some 11) rfl Tryz.func47 #[.string a0, .int .u8 44] ?_; (with_reducible refine (r02_Split.calls k a0 44 t507 _ A3.out).mono ?_); rintro e w4 ⟨v508, rfl, ho0, hb⟩; refine ⟨_, rfl, ?_⟩; have HO509 := Aside0.mk (Kd.R_lower ho0 (below_size (uW HB.out))); replace HB := cW HB hb; (try clear hb); (try clear ho0)))
  (try simp only [Act.put, List.setIfInBounds_toArray, List.set_cons_zero, List.set_cons_succ])
  go_loopg [4, 6] k (fun kq v4 v6 w' => ∃ (x4_1 : List (S113)) (x6_1 : Int), v6 = .int .i64 x6_1 ∧ Aside0 (r03_Parse.l0 kq x4_1 t507 x6_1 = some (r1, r2)) ∧ Aside0 (kq ≤ k) ∧ Aside0 (Kd.R k113 113 w' w.heap.size (fun _ => True) v4 x4_1) ∧ Aside0 (Kd.R Kd.string 9 w' w.heap.size (fun _ => True) v508 t507) ∧ Aside0 (Below w.heap.size w w'))
  case atStart => exact ⟨(([] : List (S113))), (0), rs_, H', ⟨Nat.le_refl _⟩, ⟨nl_⟩, ⟨uR HO509.out⟩, ⟨uW HB.out⟩⟩
  case round =>
   clear H'
   try clear c2
   try clear c2b0
   try clear c2b1
   try clear p2
   try clear c4
   obtain ⟨x4_1, x6_1, rfl, HA, HK1, HO_4, HO_5, HB⟩ := hrel
   cases gk with
   | zero => exact absurd HA.out (by simp [r03_Parse.l0])
   | succ k1 =>
    have H := HA.out
    clear HA
    simp only [r03_Parse.l0] at H
    by_cases c5 : x6_1 < (t507.length : Int)
    ·
     rw [if_pos c5] at H
     have c5b0 : decide (x6_1 < (t507.length : Int)) = true := decide_eq_true c5
     clear c5
     obtain ⟨c6b0, H⟩ := gdd H
     obtain ⟨t515, A7, H⟩ := bs H
     try dsimp only at H
     by_cases c8 : (t515.length : Int) < 2
     ·
      rw [if_pos c8] at H
      have c8b0 : decide ((t515.length : Int) < 2) = true := decide_eq_true c8
      have c8b1 : decide (t515.length < 2) = true := decide_eq_true (by omega)
      clear c8
      simp only [Option.some.injEq, Prod.mk.injEq] at H
      obtain ⟨rfl, rfl⟩ := H
      obtain ⟨Ao9, co9, eo9⟩ := Kd.R_slice HO_5.out
      subst eo9
      have p514 : 0 ≤ (x6_1 : Int) := od
      have q514 : x6_1 < (t507.length : Int) := od
      obtain ⟨ad514, e514, hx514_0⟩ := Kd.at_string (Kd.R_reads' HO_5.out).2.2 x6_1 p514 q514
      cases e514
      replace p514 := eq_true p514
      replace q514 := eq_true q514
      go_wp2_with (first | (refine gL (some 22) rfl Tryz.func47 #[.string (rdOf ByteArray.empty t507 x6_1), .int .u8 61] ?_; (with_reducible refine (r02_Split.calls k1 (rdOf ByteArray.empty t507 x6_1) 61 t515 _ A7.out).mono ?_); rintro e w10 ⟨v516, rfl, ho0, hb⟩; refine ⟨_, rfl, ?_⟩; replace HO_4 := cR HO_4 hb; have HO517 := Aside0.mk (Kd.R_lower (Kd.R_new' ho0 (Kd.R_lt (uR HO_5.out))) (below_size (uW HB.out))); replace HO_5 := Aside0.mk (Kd.R_elder' (uR HO_5.out) (Kd.R_base ho0) hb); replace HB := cW HB hb; (try clear hb); (try clear ho0); obtain ⟨Ao11, co11, eo11⟩ := Kd.R_slice HO517.out; subst eo11))
      go_ret2
      exact ⟨_, re_, nl_, uW HB.out⟩
     ·
      rw [if_neg c8] at H
      have c8b0 : decide ((t515.length : Int) < 2) = false := decide_eq_false c8
      have c8b1 : decide (t515.length < 2) = false := decide_eq_false (by omega)
      clear c8
      obtain ⟨c12, H⟩ := gd H
      have c12b0 : decide (0 < (t515.length : Int)) = true := decide_eq_true c12
      have c12b1 : decide (0 < t515.length) = true := decide_eq_true (by omega)
      clear c12
      obtain ⟨c13, H⟩ := gd H
      have c13b0 := eq_true c13
      have c13b1 : decide (1 ≤ (t515.length : Int)) = true := decide_eq_true c13
      clear c13
      obtain ⟨y519, hy519⟩ : ∃ y_ : List ByteArray, y_ = (t515.drop 1) := ⟨_, rfl⟩
      replace H : ((r02_Join.f k1 (⟨#[61]⟩ : ByteArray) y519).bind fun t523 => (if x4_1.length < 4398046511104 then (r03_Parse.l0 k1 (x4_1 ++ [(⟨rdOf ByteArray.empty t515 0, t523⟩ : S113)]) t507 (wrap64 (x6_1 + 1))) else (none))) = some (r1, r2) := by first | (rw [hy519]; with_reducible exact H) | (have H2_ := (Option.bind_some _ _).symm.trans H; rw [hy519]; with_reducible exact H2_) | (have H2_ := (Option.bind_some _ _).symm.trans H; with_reducible exact H2_) | with_reducible exact H | (rw [hy519]; exact H) | exact H
      have Ny519 := Aside0.mk hy519
      clear hy519
      obtain ⟨t523, A14, H⟩ := bs H
      try dsimp only at H
      obtain ⟨c15, H⟩ := gd H
      have LMc15 := Aside0.mk c15
      clear c15
      obtain ⟨y524, hy524⟩ : ∃ y_ : List (S113), y_ = (x4_1 ++ [(⟨rdOf ByteArray.empty t515 0, t523⟩ : S113)]) := ⟨_, rfl⟩
      replace H : (r03_Parse.l0 k1 y524 t507 (wrap64 (x6_1 + 1))) = some (r1, r2) := by first | (rw [hy524]; with_reducible exact H) | (have H2_ := (Option.bind_some _ _).symm.trans H; rw [hy524]; with_reducible exact H2_) | (have H2_ := (Option.bind_some _ _).symm.trans H; with_reducible exact H2_) | with_reducible exact H | (rw [hy524]; exact H) | exact H
      have Ny524 := Aside0.mk hy524
      clear hy524
      have H' := Aside0.mk H
      clear H
      obtain ⟨Ao16, co16, eo16⟩ := Kd.R_slice HO_5.out
      subst eo16
      have p514 : 0 ≤ (x6_1 : Int) := od
      have q514 : x6_1 < (t507.length : Int) := od
      obtain ⟨ad514, e514, hx514_0⟩ := Kd.at_string (Kd.R_reads' HO_5.out).2.2 x6_1 p514 q514
      cases e514
      replace p514 := eq_true p514
      replace q514 := eq_true q514
      try go_wp2_with (first | (refine gL (some 22) rfl Tryz.func47 #[.string (rdOf ByteArray.empty t507 x6_1), .int .u8 61] ?_; (with_reducible refine (r02_Split.calls k1 (rdOf ByteArray.empty t507 x6_1) 61 t515 _ A7.out).mono ?_); rintro e w17 ⟨v516, rfl, ho0, hb⟩; refine ⟨_, rfl, ?_⟩; replace HO_4 := cR HO_4 hb; have HO517 := Aside0.mk (Kd.R_lower (Kd.R_new' ho0 (Kd.R_lt (uR HO_5.out))) (below_size (uW HB.out))); replace HO_5 := Aside0.mk (Kd.R_elder' (uR HO_5.out) (Kd.R_base ho0) hb); replace HB := cW HB hb; (try clear hb); (try clear ho0); obtain ⟨Ao18, co18, eo18⟩ := Kd.R_slice HO517.out; subst eo18))
      replace HO_4 := Aside0.mk (Kd.R_drew HO_4.out)
      replace HO_5 := Aside0.mk (Kd.R_drew HO_5.out)
      replace HO517 := Aside0.mk (Kd.R_drew HO517.out)
      replace HB := Aside0.mk (below_drew1 HB.out)
      have p518 : 0 ≤ (0 : Int) := (by omega)
      have q518 : 0 < (t515.length : Int) := od
      obtain ⟨ad518, e518, hx518_0⟩ := Kd.at_string (Kd.R_reads' HO517.out).2.2 0 p518 q518
      cases e518
      have qi518 : (0 < t515.length) = True := eq_true (by omega)
      (try rw [show ((0 : Int)).toNat = 0 from rfl] at hx518_0)
      (try rw [Addr.add_zero'] at hx518_0)
      replace p518 := eq_true p518
      replace q518 := eq_true q518
      have q20 : (1 : Int) ≤ ((t515.length : Int) : Int) := od
      obtain ⟨i020, hi020, _, hsz20, _⟩ := info_parts info9
      have hroom20 : t515.length ≤ co18 := (Kd.R_reads' HO517.out).2.1
      have hC20 : Kd.C Kd.string _ (some ad518) t515.length t515 := (Kd.R_reads' HO517.out).2.2
      have hcut20 := cut_from (P := Tryz.prog) 56 9 .i64 Tryz.underlying56 hi020 1 hsz20 (some ad518) t515.length co18 1 (by omega) q20
      have hr20 := Kd.C_drop (m := (1 : Int).toNat) (c := co18) hC20 (by omega) hroom20
      obtain ⟨A20, hA20⟩ : ∃ A1, A1 = (if co18 = (1 : Int).toNat then (some ad518) else ((some ad518) : Option Addr).map (·.add ((1 : Int).toNat * 1))) := ⟨_, rfl⟩
      obtain ⟨c20, hc20⟩ : ∃ c1, c1 = co18 - (1 : Int).toNat := ⟨_, rfl⟩
      have hy20 : y519.length = t515.length - (1 : Int).toNat := (by rw [Ny519.out, List.length_drop] <;> omega)
      rw [show (t515).drop (1 : Int).toNat = y519 from Ny519.out.symm] at hr20
      replace hr20 : Kd.C Kd.string _ A20 y519.length y519 := (by rw [hA20]; exact hr20)
      rw [← hy20, ← hA20, ← hc20] at hcut20
      have HR522 := Aside0.mk hr20
      have HC522 := Aside0.mk (show y519.length ≤ c20 from by rw [hy20, hc20]; exact Nat.sub_le_sub_right hroom20 _)
      clear hr20 hC20 hroom20 hi020 hsz20 hc20
      have KY20 := Aside0.mk hy20
      have KA20 := Aside0.mk hA20
      clear hy20 hA20
      have KL20 := Aside0.mk (show 1 ≤ t515.length from by omega)
      replace q20 := eq_true q20
      refine start_ (n := 11) (S := fun w' => w'.cell? ad518 = some (.string (rdOf ByteArray.empty t515 0))) (ds := [8, 9]) _ (by kernel_rfl) rfl rfl (hx518_0) (fun hHeld => ?_); refine with_tabW r03_Parse.tab11 r03_Parse.bits11 (fun HT_ HW_ => ?_)
      generalize w17.drew = w19 at HO_4 HO_5 HO517 HB HR522 hx518_0 hHeld ⊢
      refine p1 0 (some 26) ?_
      refine p1 1 (some 27) ?_
      refine p1 2 (some 28) ?_
      refine p1 4 (some 30) ?_
      refine p1 5 (some 31) ?_
      refine t1 3 (some 29) rfl rfl hHeld (Or.inl ⟨by rfl, by intro w' s0; go_simp; with_reducible rfl⟩) ?_
      refine o1 6 (some 32) rfl rfl (fun K hK => ?_)
      refine gS Tryz.func66 #[.string (⟨#[61]⟩ : ByteArray), .slice A20 y519.length c20] ?_
      with_reducible refine (r02_Join.calls k1 (⟨#[61]⟩ : ByteArray) _ _ y519 t523 _ ?side1 ?side2 A14.out).mono ?_
      (case side1 => repeat (first | exact (by repeat (first | (with_reducible exact HR522.out) | (with_reducible refine Kd.C_alloc ?_ _) | (with_reducible refine Kd.C_drewN ?_ _) | (with_reducible refine Kd.C_drew ?_) | exact HR522.out)) | (with_reducible refine Kd.C_alloc ?_ _) | (with_reducible refine Kd.C_drewN ?_ _) | (with_reducible refine Kd.C_drew ?_)))
      (case side2 => exact HC522.out)
      rintro e w' ⟨rfl, ⟨nd, rfl⟩⟩
      refine ⟨_, rfl, ?_⟩
      refine hK.out _ _ (hHeld) (fun hHeld => ?_)
      clear hK K
      refine norm_ (a' := ?_) ?_ ?_
      rotate_left
      ·
       show Act.put _ (some 32) _ = _
       simp only [Act.put, List.setIfInBounds_toArray, List.set_cons_zero, List.set_cons_succ, i64_w, i32_w]
       rfl
      refine p1 7 (some 33) ?_
      refine l1_ 8 (some 34) rfl rfl (fun K hK => ?_)
      refine value_ (w1 := ?_) (v := ?_) (by rfl) rfl ?_ ?_
      rotate_left 2
      ·
       go_simp
       constructor
       ·
        rfl
       ·
        rfl
      refine hK.out _ _ ?_
      clear hK K
      refine norm_ (a' := ?_) ?_ ?_
      rotate_left
      ·
       show Act.put _ (some 34) _ = _
       simp only [Act.put, List.setIfInBounds_toArray, List.set_cons_zero, List.set_cons_succ, i64_w, i32_w]
       rfl
      refine l1_ 9 (some 35) rfl rfl (fun K hK => ?_)
      refine Kd.R_append_step k113 (w0 := w) w.heap.size (by rfl) (.tmp 26) (.tmp 34) 92 113 (.agg #[(.string ⟨#[]⟩), (.string ⟨#[]⟩)]) 32 rfl Tryz.underlying92 info113 rfl (by decide) (by omega) u4 x4_1 (⟨rdOf ByteArray.empty t515 0, t523⟩ : S113) [.string (rdOf ByteArray.empty t515 0), .string t523] (fun _ => True) (fun _ => False) rfl rfl ?aP (fun _ hk => hk.elim) ?aF ?aO ?aB ?aS ?aL ?_
      (case aP => exact k113_mkM _ _ _ (⟨rdOf ByteArray.empty t515 0, t523⟩ : S113))
      (case aB => exact (uW HB.out))
      (case aF => exact (fun _ _ => trivial))
      (case aO => exact (uR HO_4.out))
      (case aS => exact (below_size (uW HB.out)))
      (case aL => have := LMc15.out; omega)
      intro v525 w21 ho hb hg hat
      rw [← Ny524.out] at ho
      replace HO_5 := Aside0.mk (Kd.R_over' (uR HO_5.out) (Kd.R_typed (uR HO_4.out)) (by decide) hg)
      replace HB := Aside0.mk (hb)
      replace HR522 := Aside0.mk ((show Kd.C Kd.string w21 A20 y519.length y519 from by rw [Ny519.out, KA20.out]; exact Kd.C_drop (m := 1) (c := co18) ((Kd.R_reads' (Kd.R_over' (uR HO517.out) (Kd.R_typed (uR HO_4.out)) (by decide) hg)).2.2) KL20.out ((Kd.R_reads' (Kd.R_over' (uR HO517.out) (Kd.R_typed (uR HO_4.out)) (by decide) hg)).2.1)))
      replace HO517 := Aside0.mk (Kd.R_over' (uR HO517.out) (Kd.R_typed (uR HO_4.out)) (by decide) hg)
      have HO526 := Aside0.mk (ho)
      clear HO_4
      clear ho hb hg hat
      refine hK.out _ _ ?_
      clear hK K
      refine norm_ (a' := ?_) ?_ ?_
      rotate_left
      ·
       show Act.put _ (some 35) _ = _
       simp only [Act.put, List.setIfInBounds_toArray, List.set_cons_zero, List.set_cons_succ, i64_w, i32_w]
       rfl
      refine p1 10 (some 4) ?_
      refine done_ (done_of HT_.out (by kernel_rfl)) ?_
      try go_wp2
      go_roundg k1
      case measure => have := HK1.out; omega
      case rel => exact ⟨(y524), (wrap64 (x6_1 + 1)), rs_, H', ⟨by have := HK1.out; omega⟩, ⟨uR HO526.out⟩, ⟨by exact uR <| Kd.R_mono HO_5.out (fun _ hk => trivial)⟩, ⟨uW HB.out⟩⟩
    ·
     rw [if_neg c5] at H
     have c5b0 : decide (x6_1 < (t507.length : Int)) = false := decide_eq_false c5
     clear c5
     obtain ⟨⟨t510, t511⟩, A22, H⟩ := bs H
     try dsimp only at H
     simp only [Option.some.injEq, Prod.mk.injEq] at H
     obtain ⟨rfl, rfl⟩ := H
     obtain ⟨Ao23, co23, eo23⟩ := Kd.R_slice HO_5.out
     subst eo23
     obtain ⟨Ao24, co24, eo24⟩ := Kd.R_slice HO_4.out
     subst eo24
     go_wp2_with (first | (refine gL (some 37) rfl Tryz.func94 #[.slice Ao24 x4_1.length co24] ?_; (with_reducible refine (r03_Canon.calls k1 _ _ x4_1 t510 t511 _ ?side1 ?side2 A22.out).mono ?_); (case side1 => exact uC <| (Kd.R_reads' HO_4.out).2.2); (case side2 => exact (Kd.R_reads' HO_4.out).2.1); rintro e w25 ⟨v512, rfl, ho0, hb⟩; refine ⟨_, rfl, ?_⟩; replace HO_5 := cR HO_5 hb; have HO513 := Aside0.mk (Kd.R_lower (Kd.R_new' ho0 (Kd.R_lt (uR HO_4.out))) (below_size (uW HB.out))); replace HO_4 := Aside0.mk (Kd.R_elder' (uR HO_4.out) (Kd.R_base ho0) hb); replace HB := cW HB hb; (try clear hb); (try clear ho0)))
     go_ret2
     exact ⟨_, re_, by exact uR <| Kd.R_mono HO513.out (fun _ hk => trivial), uW HB.out⟩
def r03_Text.l0 : Nat → List (S113) → List ByteArray → Int → Option (ByteArray)
 | 0, _, _, _ => none
 | k + 1, x0, x3, x4 => if x4 < (x0.length : Int) then (if 0 ≤ x4 then (if ((rd_T113 x0 x4).f0).size + 1 ≤ 9223372036854775807 then (if (((rd_T113 x0 x4).f0) ++ (⟨#[61]⟩ : ByteArray)).size + ((rd_T113 x0 x4).f1).size ≤ 9223372036854775807 then (if x3.length < 8796093022208 then (r03_Text.l0 k x0 (x3 ++ [(((rd_T113 x0 x4).f0) ++ (⟨#[61]⟩ : ByteArray)) ++ ((rd_T113 x0 x4).f1)]) (wrap64 (x4 + 1))) else (none)) else (none)) else (none)) else (none)) else ((r02_Join.f k (⟨#[44]⟩ : ByteArray) x3).bind fun t532 => (some t532))
def r03_Text.f (k : Nat) (l0 : List (S113)) : Option (ByteArray) := r03_Text.l0 k l0 ([] : List ByteArray) 0
theorem r03_Text.mono_l : ∀ k, (∀ y0 y1 y2, LeC (r03_Text.l0 k y0 y1 y2) (r03_Text.l0 (k + 1) y0 y1 y2))
 | 0 => fun _ _ _ => ⟨fun r h => by simp [r03_Text.l0] at h⟩
 | k + 1 => by have ih0 := r03_Text.mono_l k; exact fun _ _ _ => by unfold r03_Text.l0; exact lm
theorem r03_Text.mono : ∀ a0 k, LeO (r03_Text.f k a0) (r03_Text.f (k + 1) a0) := by
 intro a0 k
 have ih0 := r03_Text.mono_l k
 unfold r03_Text.f
 exact lo
instance r03_Text.mI {a0 k} : LeC (r03_Text.f k a0) (r03_Text.f (k + 1) a0) := ⟨r03_Text.mono _ _⟩
def r03_Text.T5 : Bool × List (List Nat × List Nat) := (true, [([], []), ([], []), ([], []), ([1, 2], [1, 2]), ([3], [3]), ([4], [4]), ([5], [5]), ([], []), ([], []), ([7, 8], [7, 8]), ([9], [9]), ([10], [10]), ([6, 11], [6, 11]), ([12], [12]), ([0, 13], [0, 13]), ([14, 14, 0, 1, 2, 3, 4, 5, 6, 7, 8, 9, 10, 11, 12, 13, 14], [0, 14])])
def r03_Text.B5 : List Nat := [0, 0, 0, 6, 14, 30, 62, 0, 0, 384, 896, 1920, 4094, 8190, 16383, 32767]
theorem r03_Text.tab5 : rtab .any (opsOf Tryz.f76 5) = r03_Text.T5 := by kernel_rfl
theorem r03_Text.bits5 : waitsOk r03_Text.T5.2 r03_Text.B5 = true := by kernel_rfl
theorem r03_Text.calls (k : Nat) (A0 : Option Addr) (c0 : Nat) (l0 : List (S113)) (r : ByteArray) (w : World) (hr0 : Kd.C k113 w A0 l0.length l0) (hc0 : l0.length ≤ c0) (h : r03_Text.f k l0 = some r) :
 Calls Tryz.prog 76 #[.slice A0 l0.length c0] w fun e w' => e = .returned (.string r) ∧ Below w.heap.size w w' := by
 have HR0 := Aside0.mk hr0
 have HC0 := Aside0.mk hc0
 clear hr0 hc0
 have HB := Aside0.mk (Below.refl w.heap.size w)
 have H : (r03_Text.l0 k l0 ([] : List ByteArray) 0) = some r := h
 clear h
 have H' := Aside0.mk H
 clear H
 go_enter Tryz.func76, Tryz.ntmps76
 go_wp2
 go_loopg [3, 4] k (fun kq v3 v4 w' => ∃ (x3_1 : List ByteArray) (x4_1 : Int), v4 = .int .i64 x4_1 ∧ Aside0 (r03_Text.l0 kq l0 x3_1 x4_1 = some r) ∧ Aside0 (kq ≤ k) ∧ Aside0 (Kd.R Kd.string 9 w' w.heap.size (fun _ => True) v3 x3_1) ∧ Aside0 (Below w.heap.size w w'))
 case atStart => exact ⟨(([] : List ByteArray)), (0), rs_, H', ⟨Nat.le_refl _⟩, ⟨nl_⟩, ⟨uW HB.out⟩⟩
 case round =>
  clear H'
  obtain ⟨x3_1, x4_1, rfl, HA, HK1, HO_3, HB⟩ := hrel
  cases gk with
  | zero => exact absurd HA.out (by simp [r03_Text.l0])
  | succ k1 =>
   have H := HA.out
   clear HA
   simp only [r03_Text.l0] at H
   by_cases c2 : x4_1 < (l0.length : Int)
   ·
    rw [if_pos c2] at H
    have c2b0 : decide (x4_1 < (l0.length : Int)) = true := decide_eq_true c2
    clear c2
    obtain ⟨c3b0, H⟩ := gdd H
    obtain ⟨c4, H⟩ := gd H
    have c4b0 := eq_true c4
    have c4b1 : decide (((rd_T113 l0 x4_1).f0).size + 1 ≤ 9223372036854775807) = true := decide_eq_true c4
    try have c4b2 : (9223372036854775807 < ((rd_T113 l0 x4_1).f0).size + 1) = False := eq_false (Nat.not_lt.2 c4)
    obtain ⟨c5, H⟩ := gd H
    have c5b0 := eq_true c5
    have c5b1 : decide ((((rd_T113 l0 x4_1).f0) ++ (⟨#[61]⟩ : ByteArray)).size + ((rd_T113 l0 x4_1).f1).size ≤ 9223372036854775807) = true := decide_eq_true c5
    try have c5b2 : (9223372036854775807 < (((rd_T113 l0 x4_1).f0) ++ (⟨#[61]⟩ : ByteArray)).size + ((rd_T113 l0 x4_1).f1).size) = False := eq_false (Nat.not_lt.2 c5)
    try have c5b8 := c5b2
    try simp only [ByteArray.size_append] at c5b8
    try have c5b9 := c5b2
    try simp only [ByteArray.size_append, show (⟨#[61]⟩ : ByteArray).size = 1 from rfl] at c5b9
    obtain ⟨c6, H⟩ := gd H
    have LMc6 := Aside0.mk c6
    clear c6
    obtain ⟨y529, hy529⟩ : ∃ y_ : List ByteArray, y_ = (x3_1 ++ [(((rd_T113 l0 x4_1).f0) ++ (⟨#[61]⟩ : ByteArray)) ++ ((rd_T113 l0 x4_1).f1)]) := ⟨_, rfl⟩
    replace H : (r03_Text.l0 k1 l0 y529 (wrap64 (x4_1 + 1))) = some r := by first | (rw [hy529]; with_reducible exact H) | (have H2_ := (Option.bind_some _ _).symm.trans H; rw [hy529]; with_reducible exact H2_) | (have H2_ := (Option.bind_some _ _).symm.trans H; with_reducible exact H2_) | with_reducible exact H | (rw [hy529]; exact H) | exact H
    have Ny529 := Aside0.mk hy529
    clear hy529
    have H' := Aside0.mk H
    clear H
    try go_wp2
    replace HO_3 := Aside0.mk (Kd.R_drew HO_3.out)
    replace HB := Aside0.mk (below_drew1 HB.out)
    have p527 : 0 ≤ (x4_1 : Int) := od
    have q527 : x4_1 < (l0.length : Int) := od
    obtain ⟨ad527, e527, hx527_0, hx527_1⟩ := at_T113 HR0.out x4_1 p527 q527
    have hw527_1 := hx527_1
    have hw527_0 := hx527_0
    cases e527
    replace hx527_0 := kc HB hx527_0
    replace hx527_1 := kc HB hx527_1
    replace p527 := eq_true p527
    replace q527 := eq_true q527
    have p528 : 0 ≤ (x4_1 : Int) := od
    have q528 : x4_1 < (l0.length : Int) := od
    obtain ⟨ad528, e528, hx528_0, hx528_1⟩ := at_T113 HR0.out x4_1 p528 q528
    have hw528_1 := hx528_1
    have hw528_0 := hx528_0
    obtain rfl : ad527 = ad528 := (by injection e528)
    replace hx528_0 := kc HB hx528_0
    replace hx528_1 := kc HB hx528_1
    replace p528 := eq_true p528
    replace q528 := eq_true q528
    refine start_ (n := 16) (S := fun w' => w'.cell? (ad527.add ((x4_1).toNat * 2)) = some (.string ((rd_T113 l0 x4_1).f0)) ∧ w'.cell? ⟨(ad527.add ((x4_1).toNat * 2)).block, (ad527.add ((x4_1).toNat * 2)).off + 1, none⟩ = some (.string ((rd_T113 l0 x4_1).f1)) ∧ w'.cell? (ad527.add ((x4_1).toNat * 2)) = some (.string ((rd_T113 l0 x4_1).f0)) ∧ w'.cell? ⟨(ad527.add ((x4_1).toNat * 2)).block, (ad527.add ((x4_1).toNat * 2)).off + 1, none⟩ = some (.string ((rd_T113 l0 x4_1).f1))) (ds := []) _ (by kernel_rfl) rfl rfl ⟨(kc HB hw527_0), (kc HB hw527_1), (kc HB hw528_0), (kc HB hw528_1)⟩ (fun hHeld => ?_); refine with_tabW r03_Text.tab5 r03_Text.bits5 (fun HT_ HW_ => ?_)
    generalize wr.drew = w7 at HO_3 HB hx527_0 hx527_1 hx528_0 hx528_1 hHeld ⊢
    refine p1 0 (some 11) ?_
    refine p1 1 (some 12) ?_
    refine p1 2 (some 13) ?_
    refine p1 3 (some 14) ?_
    refine p1 4 (some 15) ?_
    refine p1 7 (some 18) ?_
    refine p1 8 (some 19) ?_
    refine p1 9 (some 20) ?_
    refine p1 10 (some 21) ?_
    refine t1 5 (some 16) rfl rfl hHeld (Or.inl ⟨by rfl, by rintro w' ⟨s0, s1, s2, s3⟩; go_simp; with_reducible rfl⟩) ?_
    refine p1 6 (some 17) ?_
    refine t1 11 (some 22) rfl rfl hHeld (Or.inl ⟨by rfl, by rintro w' ⟨s0, s1, s2, s3⟩; go_simp; with_reducible rfl⟩) ?_
    refine p1 12 (some 23) ?_
    refine o1 13 (some 24) rfl rfl (fun K hK => ?_)
    refine value_ (w1 := ?_) (v := ?_) (by rfl) rfl ?_ ?_
    rotate_left 2
    ·
     go_simp
     constructor
     ·
      rfl
     ·
      rfl
    refine hK.out _ _ ⟨(World.cell?_alloc_lt _ _ _ (World.block_lt_of_cell? _ _ ((kc HB hw527_0)))).trans ((kc HB hw527_0)), (World.cell?_alloc_lt _ _ _ (World.block_lt_of_cell? _ _ ((kc HB hw527_1)))).trans ((kc HB hw527_1)), (World.cell?_alloc_lt _ _ _ (World.block_lt_of_cell? _ _ ((kc HB hw528_0)))).trans ((kc HB hw528_0)), (World.cell?_alloc_lt _ _ _ (World.block_lt_of_cell? _ _ ((kc HB hw528_1)))).trans ((kc HB hw528_1))⟩ (fun hHeld => ?_)
    clear hK K
    refine norm_ (a' := ?_) ?_ ?_
    rotate_left
    ·
     show Act.put _ (some 24) _ = _
     simp only [Act.put, List.setIfInBounds_toArray, List.set_cons_zero, List.set_cons_succ, i64_w, i32_w]
     rfl
    refine o1 14 (some 25) rfl rfl (fun K hK => ?_)
    refine Kd.R_append_step Kd.string (w0 := w) w.heap.size (by rfl) (.tmp 11) (.tmp 24) 56 9 (.string ⟨#[]⟩) 16 rfl Tryz.underlying56 info9 rfl (by decide) (by omega) u3 x3_1 ((((rd_T113 l0 x4_1).f0) ++ (⟨#[61]⟩ : ByteArray)) ++ ((rd_T113 l0 x4_1).f1)) [.string ((((rd_T113 l0 x4_1).f0) ++ (⟨#[61]⟩ : ByteArray)) ++ ((rd_T113 l0 x4_1).f1))] (fun _ => True) (fun _ => False) rfl rfl ?aP (fun _ hk => hk.elim) ?aF ?aO ?aB ?aS ?aL ?_
    (case aP => exact rfl)
    (case aB => exact (uW HB.out))
    (case aF => exact (fun _ _ => trivial))
    (case aO => exact (uR HO_3.out))
    (case aS => exact (below_size (uW HB.out)))
    (case aL => have := LMc6.out; omega)
    intro v530 w8 ho hb hg hat
    rw [← Ny529.out] at ho
    replace HB := Aside0.mk (hb)
    have HO531 := Aside0.mk (ho)
    clear HO_3
    clear ho hb hg hat
    refine hK.out _ _ ⟨(kc HB hw527_0), (kc HB hw527_1), (kc HB hw528_0), (kc HB hw528_1)⟩ (fun hHeld => ?_)
    clear hK K
    refine norm_ (a' := ?_) ?_ ?_
    rotate_left
    ·
     show Act.put _ (some 25) _ = _
     simp only [Act.put, List.setIfInBounds_toArray, List.set_cons_zero, List.set_cons_succ, i64_w, i32_w]
     rfl
    refine p1 15 (some 3) ?_
    refine done_ (done_of HT_.out (by kernel_rfl)) ?_
    try go_wp2
    go_roundg k1
    case measure => have := HK1.out; omega
    case rel => exact ⟨(y529), (wrap64 (x4_1 + 1)), rs_, H', ⟨by have := HK1.out; omega⟩, ⟨uR HO531.out⟩, ⟨uW HB.out⟩⟩
   ·
    rw [if_neg c2] at H
    have c2b0 : decide (x4_1 < (l0.length : Int)) = false := decide_eq_false c2
    clear c2
    obtain ⟨t532, A9, H⟩ := bs H
    try dsimp only at H
    obtain rfl := Option.some.inj H
    obtain ⟨Ao10, co10, eo10⟩ := Kd.R_slice HO_3.out
    subst eo10
    go_wp2_with (first | (refine gL (some 27) rfl Tryz.func66 #[.string (⟨#[44]⟩ : ByteArray), .slice Ao10 x3_1.length co10] ?_; (with_reducible refine (r02_Join.calls k1 (⟨#[44]⟩ : ByteArray) _ _ x3_1 t532 _ ?side1 ?side2 A9.out).mono ?_); (case side1 => exact uC <| (Kd.R_reads' HO_3.out).2.2); (case side2 => exact (Kd.R_reads' HO_3.out).2.1); rintro e w' ⟨rfl, ⟨nd, rfl⟩⟩; refine ⟨_, rfl, ?_⟩))
    go_ret
    exact ⟨re_, uW HB.out⟩
def r08_group.f (k : Nat) (a0 : ByteArray) : Option (Int) := (r03_Parse.f k a0).bind fun bt533 => (if bt533.2 = 0 then ((r03_Text.f k bt533.1).bind fun t537 => (if t537.toList = a0.toList then (some 0) else (some 2))) else (some bt533.2))
theorem r08_group.mono : ∀ a0 k, LeO (r08_group.f k a0) (r08_group.f (k + 1) a0) := by
 intro a0 k
 unfold r08_group.f
 exact lo
instance r08_group.mI {a0 k} : LeC (r08_group.f k a0) (r08_group.f (k + 1) a0) := ⟨r08_group.mono _ _⟩
theorem r08_group.calls (k : Nat) (a0 : ByteArray) (r : Int) (w : World) (h : r08_group.f k a0 = some r) :
 Calls Tryz.prog 59 #[.string a0] w fun e w' => e = .returned (.int .i64 r) ∧ Below w.heap.size w w' := by
 have HB := Aside0.mk (Below.refl w.heap.size w)
 have H : ((r03_Parse.f k a0).bind fun bt533 => (if bt533.2 = 0 then ((r03_Text.f k bt533.1).bind fun t537 => (if t537.toList = a0.toList then (some 0) else (some 2))) else (some bt533.2))) = some r := h
 clear h
 obtain ⟨⟨t533, t534⟩, A2, H⟩ := bs H
 try dsimp only at H
 by_cases c3 : t534 = 0
 ·
  rw [if_pos c3] at H
  have c3b0 : (t534 == 0) = true := beq_iff_eq.mpr c3
  have c3b1 : (t534 != 0) = false := bne_eq_false_iff_eq.mpr c3
  clear c3
  obtain ⟨t537, A4, H⟩ := bs H
  try dsimp only at H
  by_cases c5 : t537.toList = a0.toList
  ·
   rw [if_pos c5] at H
   have c5b0 : (t537.toList == a0.toList) = true := beq_iff_eq.mpr c5
   have c5b1 : (t537.toList != a0.toList) = false := bne_eq_false_iff_eq.mpr c5
   clear c5
   obtain rfl := Option.some.inj H
   go_enter Tryz.func59, Tryz.ntmps59
   go_wp2_with (first | (refine gL (some 7) rfl Tryz.func75 #[.string a0] ?_; (with_reducible refine (r03_Parse.calls k a0 t533 t534 _ A2.out).mono ?_); rintro e w6 ⟨v535, rfl, ho0, hb⟩; refine ⟨_, rfl, ?_⟩; have HO536 := Aside0.mk (Kd.R_lower ho0 (below_size (uW HB.out))); replace HB := cW HB hb; (try clear hb); (try clear ho0); obtain ⟨Ao7, co7, eo7⟩ := Kd.R_slice HO536.out; subst eo7) | (refine gL (some 14) rfl Tryz.func76 #[.slice Ao7 t533.length co7] ?_; (with_reducible refine (r03_Text.calls k _ _ t533 t537 _ ?side1 ?side2 A4.out).mono ?_); (case side1 => exact uC <| (Kd.R_reads' HO536.out).2.2); (case side2 => exact (Kd.R_reads' HO536.out).2.1); rintro e w8 ⟨rfl, hb⟩; refine ⟨_, rfl, ?_⟩; replace HO536 := cR HO536 hb; replace HB := cW HB hb; (try clear hb)))
   go_ret
   exact ⟨re_, uW HB.out⟩
  ·
   rw [if_neg c5] at H
   have c5b0 : (t537.toList == a0.toList) = false := beq_eq_false_iff_ne.mpr c5
   have c5b1 : (t537.toList != a0.toList) = true := bne_iff_ne.mpr c5
   obtain rfl := Option.some.inj H
   go_enter Tryz.func59, Tryz.ntmps59
   go_wp2_with (first | (refine gL (some 7) rfl Tryz.func75 #[.string a0] ?_; (with_reducible refine (r03_Parse.calls k a0 t533 t534 _ A2.out).mono ?_); rintro e w9 ⟨v535, rfl, ho0, hb⟩; refine ⟨_, rfl, ?_⟩; have HO536 := Aside0.mk (Kd.R_lower ho0 (below_size (uW HB.out))); replace HB := cW HB hb; (try clear hb); (try clear ho0); obtain ⟨Ao10, co10, eo10⟩ := Kd.R_slice HO536.out; subst eo10) | (refine gL (some 14) rfl Tryz.func76 #[.slice Ao10 t533.length co10] ?_; (with_reducible refine (r03_Text.calls k _ _ t533 t537 _ ?side1 ?side2 A4.out).mono ?_); (case side1 => exact uC <| (Kd.R_reads' HO536.out).2.2); (case side2 => exact (Kd.R_reads' HO536.out).2.1); rintro e w11 ⟨rfl, hb⟩; refine ⟨_, rfl, ?_⟩; replace HO536 := cR HO536 hb; replace HB := cW HB hb; (try clear hb)))
   go_ret
   exact ⟨re_, uW HB.out⟩
 ·
  rw [if_neg c3] at H
  have c3b0 : (t534 == 0) = false := beq_eq_false_iff_ne.mpr c3
  have c3b1 : (t534 != 0) = true := bne_iff_ne.mpr c3
  obtain rfl := Option.some.inj H
  go_enter Tryz.func59, Tryz.ntmps59
  go_wp2_with (first | (refine gL (some 7) rfl Tryz.func75 #[.string a0] ?_; (with_reducible refine (r03_Parse.calls k a0 t533 t534 _ A2.out).mono ?_); rintro e w12 ⟨v535, rfl, ho0, hb⟩; refine ⟨_, rfl, ?_⟩; have HO536 := Aside0.mk (Kd.R_lower ho0 (below_size (uW HB.out))); replace HB := cW HB hb; (try clear hb); (try clear ho0)))
  go_ret
  exact ⟨re_, uW HB.out⟩
end Go.Proofs.YteckidchnicjeaaGreatDoor.X
