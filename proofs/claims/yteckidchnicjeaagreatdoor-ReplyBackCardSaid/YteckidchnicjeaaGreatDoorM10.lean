/- Printed by a program of this session's own: what functions of the program compute, and that the machine computes it. No condition of its own. -/
import Derived.Test.YteckidchnicjeaaGreatDoorM3
import Derived.Test.YteckidchnicjeaaGreatDoorM9
import Derived.Test.YteckidchnicjeaaGreatDoorM7
namespace Go.Proofs.YteckidchnicjeaaGreatDoor.X
open Go.RowKit Go.Proofs.YteckidchnicjeaaGreatDoorW.PrintWords Go.Proofs.YteckidchnicjeaaGreatDoorW.PrintLast Go.Proofs.YteckidchnicjeaaGreatDoorW.PrintMore
attribute [local go_sem] max2_int min2_int max_two min_two max_three min_three max_four min_four
set_option linter.unusedVariables false
set_option linter.unusedSimpArgs false
set_option maxHeartbeats 8000000
set_option maxRecDepth 100000
mutual
def r03_Canon.l0 : Nat → List (S113) → Int → Option ((List (S113)) × Int)
 | 0, _, _ => none
 | k + 1, x0, x4 => if x4 < (x0.length : Int) then (if 0 ≤ x4 then ((r03_may.f k ((rd_T113 x0 x4).f0) ((rd_T113 x0 x4).f1)).bind fun t463 => (if t463 = true then (r03_Canon.l0 k x0 (wrap64 (x4 + 1))) else (some (([] : List (S113)), 2)))) else (none)) else (if (x0.length : Int) > 4 then (some (([] : List (S113)), 4)) else (r03_Canon.l1 k x0 ([] : List (S113)) 0))
def r03_Canon.l1 : Nat → List (S113) → List (S113) → Int → Option ((List (S113)) × Int)
 | 0, _, _, _ => none
 | k + 1, x0, x5, x6 => if x6 < (x0.length : Int) then (r03_Canon.l2 k x0 x5 x6 0) else (some (x5, 0))
def r03_Canon.l2 : Nat → List (S113) → List (S113) → Int → Int → Option ((List (S113)) × Int)
 | 0, _, _, _, _ => none
 | k + 1, x0, x5, x6, x7 => if x7 < (x5.length : Int) then (if 0 ≤ x7 then (if 0 ≤ x6 then (if x6 < (x0.length : Int) then (if (Op.bytesLess (((rd_T113 x5 x7).f0).toList) (((rd_T113 x0 x6).f0).toList)) = true then (r03_Canon.l2 k x0 x5 x6 (wrap64 (x7 + 1))) else (if ((rd_T113 x5 x7).f0).toList = ((rd_T113 x0 x6).f0).toList then (some (([] : List (S113)), 5)) else ((some (([] : List (S113)) : List (S113))).bind fun y468 => (if x7 ≤ (x5.length : Int) then ((some (x5.drop (x7 : Int).toNat : List (S113))).bind fun y471 => (if y468.length + y471.length < 4398046511104 then ((some (y468 ++ y471 : List (S113))).bind fun y475 => ((some (x5.take (x7 : Int).toNat : List (S113))).bind fun y478 => (if y478.length < 4398046511104 then ((some (y478 ++ [(⟨(rd_T113 x0 x6).f0, (rd_T113 x0 x6).f1⟩ : S113)] : List (S113))).bind fun y482 => (if y482.length + y475.length < 4398046511104 then (r03_Canon.l1 k x0 (y482 ++ y475) (wrap64 (x6 + 1))) else (none))) else (none)))) else (none))) else (none))))) else (none)) else (none)) else (none)) else ((some (([] : List (S113)) : List (S113))).bind fun y488 => (if 0 ≤ x7 then (if x7 ≤ (x5.length : Int) then ((some (x5.drop (x7 : Int).toNat : List (S113))).bind fun y491 => (if y488.length + y491.length < 4398046511104 then ((some (y488 ++ y491 : List (S113))).bind fun y495 => ((some (x5.take (x7 : Int).toNat : List (S113))).bind fun y498 => (if 0 ≤ x6 then (if x6 < (x0.length : Int) then (if y498.length < 4398046511104 then ((some (y498 ++ [(⟨(rd_T113 x0 x6).f0, (rd_T113 x0 x6).f1⟩ : S113)] : List (S113))).bind fun y502 => (if y502.length + y495.length < 4398046511104 then (r03_Canon.l1 k x0 (y502 ++ y495) (wrap64 (x6 + 1))) else (none))) else (none)) else (none)) else (none)))) else (none))) else (none)) else (none)))
end
def r03_Canon.f (k : Nat) (l0 : List (S113)) : Option ((List (S113)) × Int) := r03_Canon.l0 k l0 0
theorem r03_Canon.mono_l : ∀ k, (∀ y0 y1, LeC (r03_Canon.l0 k y0 y1) (r03_Canon.l0 (k + 1) y0 y1)) ∧ (∀ y0 y1 y2, LeC (r03_Canon.l1 k y0 y1 y2) (r03_Canon.l1 (k + 1) y0 y1 y2)) ∧ (∀ y0 y1 y2 y3, LeC (r03_Canon.l2 k y0 y1 y2 y3) (r03_Canon.l2 (k + 1) y0 y1 y2 y3))
 | 0 => ⟨fun _ _ => ⟨fun r h => by simp [r03_Canon.l0] at h⟩, fun _ _ _ => ⟨fun r h => by simp [r03_Canon.l1] at h⟩, fun _ _ _ _ => ⟨fun r h => by simp [r03_Canon.l2] at h⟩⟩
 | k + 1 => by obtain ⟨ih0, ih1, ih2⟩ := r03_Canon.mono_l k; exact ⟨fun _ _ => by unfold r03_Canon.l0; exact lm, fun _ _ _ => by unfold r03_Canon.l1; exact lm, fun _ _ _ _ => by unfold r03_Canon.l2; exact lm⟩
theorem r03_Canon.mono : ∀ a0 k, LeO (r03_Canon.f k a0) (r03_Canon.f (k + 1) a0) := by
 intro a0 k
 obtain ⟨ih0, ih1, ih2⟩ := r03_Canon.mono_l k
 unfold r03_Canon.f
 exact lo
instance r03_Canon.mI {a0 k} : LeC (r03_Canon.f k a0) (r03_Canon.f (k + 1) a0) := ⟨r03_Canon.mono _ _⟩
def r03_Canon.T13 : Bool × List (List Nat × List Nat) := (true, [([], []), ([], []), ([1], [1]), ([0, 2], [0, 2]), ([3], [3]), ([4], [4]), ([4], [4]), ([5, 6, 4], [4, 5, 6]), ([7, 4], [4, 7]), ([8, 4], [4, 8]), ([4], [4]), ([4], [4]), ([10, 11, 4], [4, 10, 11]), ([12, 4], [4, 12]), ([13, 4], [4, 13]), ([9, 14, 4], [4, 9, 14]), ([4, 15], [4, 15])])
def r03_Canon.B13 : List Nat := [0, 0, 2, 7, 15, 31, 31, 127, 255, 511, 31, 31, 3103, 7199, 15391, 32767, 65535]
theorem r03_Canon.tab13 : rtab .any (opsOf Tryz.f94 13) = r03_Canon.T13 := by kernel_rfl
theorem r03_Canon.bits13 : waitsOk r03_Canon.T13.2 r03_Canon.B13 = true := by kernel_rfl
def r03_Canon.T15 : Bool × List (List Nat × List Nat) := (true, [([], []), ([], []), ([1], [1]), ([0, 2], [0, 2]), ([3], [3]), ([4], [4]), ([4], [4]), ([5, 6, 4], [4, 5, 6]), ([7, 4], [4, 7]), ([8, 4], [4, 8]), ([4], [4]), ([4], [4]), ([10, 11, 4], [4, 10, 11]), ([12, 4], [4, 12]), ([13, 4], [4, 13]), ([9, 14, 4], [4, 9, 14]), ([4, 15], [4, 15])])
def r03_Canon.B15 : List Nat := [0, 0, 2, 7, 15, 31, 31, 127, 255, 511, 31, 31, 3103, 7199, 15391, 32767, 65535]
theorem r03_Canon.tab15 : rtab .any (opsOf Tryz.f94 15) = r03_Canon.T15 := by kernel_rfl
theorem r03_Canon.bits15 : waitsOk r03_Canon.T15.2 r03_Canon.B15 = true := by kernel_rfl
def r03_Canon.T18 : Bool × List (List Nat × List Nat) := (true, [([], []), ([], []), ([0, 1], [0, 1]), ([], []), ([], []), ([3, 4], [3, 4]), ([5], [5]), ([6], [6]), ([2, 7], [2, 7]), ([], []), ([8, 9, 8], [8, 9]), ([10, 10, 0, 1, 2, 3, 4, 5, 6, 7, 8, 9, 10], [0, 10])])
def r03_Canon.B18 : List Nat := [0, 0, 3, 0, 0, 24, 56, 120, 255, 0, 1023, 2047]
theorem r03_Canon.tab18 : rtab .any (opsOf Tryz.f94 18) = r03_Canon.T18 := by kernel_rfl
theorem r03_Canon.bits18 : waitsOk r03_Canon.T18.2 r03_Canon.B18 = true := by kernel_rfl
theorem r03_Canon.calls (k : Nat) (A0 : Option Addr) (c0 : Nat) (l0 : List (S113)) (r1 : List (S113)) (r2 : Int) (w : World) (hr0 : Kd.C k113 w A0 l0.length l0) (hc0 : l0.length ≤ c0) (h : r03_Canon.f k l0 = some (r1, r2)) :
 Calls Tryz.prog 94 #[.slice A0 l0.length c0] w fun e w' => ∃ v0_ : Value, e = .returned (.tuple #[v0_, .int .i64 r2]) ∧ Kd.R k113 113 w' w.heap.size (fun _ => True) v0_ r1 ∧ Below w.heap.size w w' := by
 have hu113 := Tryz.underlying113
 have HR0 := Aside0.mk hr0
 have HC0 := Aside0.mk hc0
 clear hr0 hc0
 have HB := Aside0.mk (Below.refl w.heap.size w)
 have H : (r03_Canon.l0 k l0 0) = some (r1, r2) := h
 clear h
 have H' := Aside0.mk H
 clear H
 go_enter Tryz.func94, Tryz.ntmps94
 go_wp2
 go_loopg [4] k (fun kq v4 w' => ∃ (x4_1 : Int), v4 = .int .i64 x4_1 ∧ Aside0 (r03_Canon.l0 kq l0 x4_1 = some (r1, r2)) ∧ Aside0 (kq ≤ k) ∧ Aside0 (Below w.heap.size w w'))
 case atStart => exact ⟨(0), rs_, H', ⟨Nat.le_refl _⟩, ⟨uW HB.out⟩⟩
 case round =>
  clear H'
  obtain ⟨x4_1, rfl, HA, HK1, HB⟩ := hrel
  cases gk with
  | zero => exact absurd HA.out (by simp [r03_Canon.l0])
  | succ k1 =>
   have H := HA.out
   clear HA
   simp only [r03_Canon.l0] at H
   by_cases c2 : x4_1 < (l0.length : Int)
   ·
    rw [if_pos c2] at H
    have c2b0 : decide (x4_1 < (l0.length : Int)) = true := decide_eq_true c2
    clear c2
    obtain ⟨c3b0, H⟩ := gdd H
    obtain ⟨t463, A4, H⟩ := bs H
    try dsimp only at H
    by_cases c5 : t463 = true
    ·
     subst c5
     rw [if_pos rfl] at H
     have H' := Aside0.mk H
     clear H
     have p462 : 0 ≤ (x4_1 : Int) := od
     have q462 : x4_1 < (l0.length : Int) := od
     obtain ⟨ad462, e462, hx462_0, hx462_1⟩ := at_T113 HR0.out x4_1 p462 q462
     cases e462
     replace hx462_0 := kc HB hx462_0
     replace hx462_1 := kc HB hx462_1
     replace p462 := eq_true p462
     replace q462 := eq_true q462
     go_wp2_with (first | (refine gL (some 19) rfl Tryz.func116 #[.agg #[.string ((rd_T113 l0 x4_1).f0), .string ((rd_T113 l0 x4_1).f1)]] ?_; (with_reducible refine (r03_may.calls k1 ((rd_T113 l0 x4_1).f0) ((rd_T113 l0 x4_1).f1) true _ A4.out).mono ?_); rintro e w6 ⟨rfl, hb⟩; refine ⟨_, rfl, ?_⟩; replace HB := cW HB hb; (try clear hb)))
     go_roundg k1
     case measure => have := HK1.out; omega
     case rel => exact ⟨(wrap64 (x4_1 + 1)), rs_, H', ⟨by have := HK1.out; omega⟩, ⟨uW HB.out⟩⟩
    ·
     replace c5 := Bool.eq_false_iff.mpr c5
     subst c5
     rw [if_neg (show ¬ (false = true) by decide)] at H
     simp only [Option.some.injEq, Prod.mk.injEq] at H
     obtain ⟨rfl, rfl⟩ := H
     have p462 : 0 ≤ (x4_1 : Int) := od
     have q462 : x4_1 < (l0.length : Int) := od
     obtain ⟨ad462, e462, hx462_0, hx462_1⟩ := at_T113 HR0.out x4_1 p462 q462
     cases e462
     replace hx462_0 := kc HB hx462_0
     replace hx462_1 := kc HB hx462_1
     replace p462 := eq_true p462
     replace q462 := eq_true q462
     go_wp2_with (first | (refine gL (some 19) rfl Tryz.func116 #[.agg #[.string ((rd_T113 l0 x4_1).f0), .string ((rd_T113 l0 x4_1).f1)]] ?_; (with_reducible refine (r03_may.calls k1 ((rd_T113 l0 x4_1).f0) ((rd_T113 l0 x4_1).f1) false _ A4.out).mono ?_); rintro e w7 ⟨rfl, hb⟩; refine ⟨_, rfl, ?_⟩; replace HB := cW HB hb; (try clear hb)))
     go_ret2
     exact ⟨_, re_, nl_, uW HB.out⟩
   ·
    rw [if_neg c2] at H
    have c2b0 : decide (x4_1 < (l0.length : Int)) = false := decide_eq_false c2
    clear c2
    by_cases c8 : (l0.length : Int) > 4
    ·
     rw [if_pos c8] at H
     have c8b0 : decide (4 < (l0.length : Int)) = true := decide_eq_true c8
     have c8b1 : decide (4 < l0.length) = true := decide_eq_true (by omega)
     clear c8
     simp only [Option.some.injEq, Prod.mk.injEq] at H
     obtain ⟨rfl, rfl⟩ := H
     go_wp2
     go_ret2
     exact ⟨_, re_, nl_, uW HB.out⟩
    ·
     rw [if_neg c8] at H
     have c8b0 : decide (4 < (l0.length : Int)) = false := decide_eq_false c8
     have c8b1 : decide (4 < l0.length) = false := decide_eq_false (by omega)
     clear c8
     have H' := Aside0.mk H
     clear H
     go_wp2
     go_loopg [5, 6] k1 (fun kq v5 v6 w' => ∃ (x5_2 : List (S113)) (x6_2 : Int), v6 = .int .i64 x6_2 ∧ Aside0 (r03_Canon.l1 kq l0 x5_2 x6_2 = some (r1, r2)) ∧ Aside0 (kq ≤ k1) ∧ Aside0 (Kd.R k113 113 w' w.heap.size (fun _ => True) v5 x5_2) ∧ Aside0 (Below w.heap.size w w'))
     case atStart => exact ⟨(([] : List (S113))), (0), rs_, H', ⟨Nat.le_refl _⟩, ⟨nl_⟩, ⟨uW HB.out⟩⟩
     case round =>
      clear H'
      try clear c2
      try clear c2b0
      try clear c8
      try clear c8b0
      try clear c8b1
      obtain ⟨x5_2, x6_2, rfl, HA, HK2, HO_5, HB⟩ := hrel
      cases gk with
      | zero => exact absurd HA.out (by simp [r03_Canon.l1])
      | succ k2 =>
       have H := HA.out
       clear HA
       simp only [r03_Canon.l1] at H
       by_cases c9 : x6_2 < (l0.length : Int)
       ·
        rw [if_pos c9] at H
        have c9b0 : decide (x6_2 < (l0.length : Int)) = true := decide_eq_true c9
        clear c9
        have H' := Aside0.mk H
        clear H
        go_wp2
        go_loopg [7] k2 (fun kq v7 w' => ∃ (x7_3 : Int), v7 = .int .i64 x7_3 ∧ Aside0 (r03_Canon.l2 kq l0 x5_2 x6_2 x7_3 = some (r1, r2)) ∧ Aside0 (kq ≤ k2) ∧ Aside0 (Kd.R k113 113 w' w.heap.size (fun _ => True) u5 x5_2) ∧ Aside0 (Below w.heap.size w w'))
        case atStart => exact ⟨(0), rs_, H', ⟨Nat.le_refl _⟩, ⟨uR HO_5.out⟩, ⟨uW HB.out⟩⟩
        case round =>
         clear H'
         try clear c1
         try clear c2
         try clear c2b0
         try clear p2 p2
         try clear c3
         try clear c3b0
         try clear p4 p4
         try clear q4 q4
         try clear hx4
         try clear c5
         try clear p6 p6
         try clear c8
         try clear c8b0
         try clear c8b1
         try clear c9
         try clear c9b0
         try clear hx462_0
         try clear hx462_1
         try clear p462
         try clear q462
         obtain ⟨x7_3, rfl, HA, HK3, HO_5, HB⟩ := hrel
         cases gk with
         | zero => exact absurd HA.out (by simp [r03_Canon.l2])
         | succ k3 =>
          have H := HA.out
          clear HA
          simp only [r03_Canon.l2] at H
          by_cases c10 : x7_3 < (x5_2.length : Int)
          ·
           rw [if_pos c10] at H
           have c10b0 : decide (x7_3 < (x5_2.length : Int)) = true := decide_eq_true c10
           clear c10
           obtain ⟨c11b0, H⟩ := gdd H
           obtain ⟨c12b0, H⟩ := gdd H
           obtain ⟨c13b0, H⟩ := gdd H
           by_cases c14 : (Op.bytesLess (((rd_T113 x5_2 x7_3).f0).toList) (((rd_T113 l0 x6_2).f0).toList)) = true
           ·
            rw [if_pos c14] at H
            have c14b0 : (Op.bytesLess (((rd_T113 x5_2 x7_3).f0).toList) (((rd_T113 l0 x6_2).f0).toList)) = true := c14
            clear c14
            have H' := Aside0.mk H
            clear H
            try go_wp2
            replace HO_5 := Aside0.mk (Kd.R_drew HO_5.out)
            replace HB := Aside0.mk (below_drew1 HB.out)
            obtain ⟨Ao16, co16, eo16⟩ := Kd.R_slice HO_5.out
            (first | subst eo16 | (injection eo16 with f1_ f2_ f3_; have f4_ := f1_.symm; have f5_ := f3_.symm; clear f1_ f2_ f3_; subst f4_; subst f5_))
            have p464 : 0 ≤ (x7_3 : Int) := od
            have q464 : x7_3 < (x5_2.length : Int) := od
            obtain ⟨ad464, e464, hx464_0, hx464_1⟩ := at_T113 (Kd.R_reads' HO_5.out).2.2 x7_3 p464 q464
            cases e464
            replace p464 := eq_true p464
            replace q464 := eq_true q464
            have p465 : 0 ≤ (x6_2 : Int) := od
            have q465 : x6_2 < (l0.length : Int) := od
            obtain ⟨ad465, e465, hx465_0, hx465_1⟩ := at_T113 HR0.out x6_2 p465 q465
            have hw465_1 := hx465_1
            have hw465_0 := hx465_0
            cases e465
            replace hx465_0 := kc HB hx465_0
            replace hx465_1 := kc HB hx465_1
            replace p465 := eq_true p465
            replace q465 := eq_true q465
            refine start_ (n := 17) (S := fun w' => w'.cell? (ad464.add ((x7_3).toNat * 2)) = some (.string ((rd_T113 x5_2 x7_3).f0)) ∧ w'.cell? ⟨(ad464.add ((x7_3).toNat * 2)).block, (ad464.add ((x7_3).toNat * 2)).off + 1, none⟩ = some (.string ((rd_T113 x5_2 x7_3).f1)) ∧ w'.cell? (ad465.add ((x6_2).toNat * 2)) = some (.string ((rd_T113 l0 x6_2).f0)) ∧ w'.cell? ⟨(ad465.add ((x6_2).toNat * 2)).block, (ad465.add ((x6_2).toNat * 2)).off + 1, none⟩ = some (.string ((rd_T113 l0 x6_2).f1))) (ds := []) _ (by kernel_rfl) rfl rfl ⟨hx464_0, hx464_1, (kc HB hw465_0), (kc HB hw465_1)⟩ (fun hHeld => ?_); refine with_tabW r03_Canon.tab13 r03_Canon.bits13 (fun HT_ HW_ => ?_)
            generalize wr.drew = w15 at HO_5 HB hx464_0 hx464_1 hx465_0 hx465_1 hHeld ⊢
            refine p1 0 (some 30) ?_
            refine p1 1 (some 31) ?_
            refine p1 2 (some 32) ?_
            refine p1 3 (some 33) ?_
            refine p1 4 (some 34) ?_
            refine p1 5 (some 35) ?_
            refine p1 6 (some 36) ?_
            refine p1 7 (some 37) ?_
            refine p1 8 (some 38) ?_
            refine p1 10 (some 40) ?_
            refine p1 11 (some 41) ?_
            refine p1 12 (some 42) ?_
            refine p1 13 (some 43) ?_
            refine t1 9 (some 39) rfl rfl hHeld (Or.inl ⟨by rfl, by rintro w' ⟨s0, s1, s2, s3⟩; go_simp; with_reducible rfl⟩) ?_
            refine t1 14 (some 44) rfl rfl hHeld (Or.inl ⟨by rfl, by rintro w' ⟨s0, s1, s2, s3⟩; go_simp; with_reducible rfl⟩) ?_
            refine p1 15 (some 45) ?_
            refine p1 16 (some 46) ?_
            refine done_ (done_of HT_.out (by kernel_rfl)) ?_
            try go_wp2
            go_roundg k3
            case measure => have := HK1.out; have := HK2.out; have := HK3.out; omega
            case rel => exact ⟨(wrap64 (x7_3 + 1)), rs_, H', ⟨by have := HK1.out; have := HK2.out; have := HK3.out; omega⟩, ⟨uR HO_5.out⟩, ⟨uW HB.out⟩⟩
           ·
            rw [if_neg c14] at H
            have c14b0 : (Op.bytesLess (((rd_T113 x5_2 x7_3).f0).toList) (((rd_T113 l0 x6_2).f0).toList)) = false := by simpa using c14
            clear c14
            by_cases c17 : ((rd_T113 x5_2 x7_3).f0).toList = ((rd_T113 l0 x6_2).f0).toList
            ·
             rw [if_pos c17] at H
             have c17b0 : (((rd_T113 x5_2 x7_3).f0).toList == ((rd_T113 l0 x6_2).f0).toList) = true := beq_iff_eq.mpr c17
             have c17b1 : (((rd_T113 x5_2 x7_3).f0).toList != ((rd_T113 l0 x6_2).f0).toList) = false := bne_eq_false_iff_eq.mpr c17
             clear c17
             simp only [Option.some.injEq, Prod.mk.injEq] at H
             obtain ⟨rfl, rfl⟩ := H
             try go_wp2
             replace HO_5 := Aside0.mk (Kd.R_drew HO_5.out)
             replace HB := Aside0.mk (below_drew1 HB.out)
             obtain ⟨Ao19, co19, eo19⟩ := Kd.R_slice HO_5.out
             (first | subst eo19 | (injection eo19 with f1_ f2_ f3_; have f4_ := f1_.symm; have f5_ := f3_.symm; clear f1_ f2_ f3_; subst f4_; subst f5_))
             have p464 : 0 ≤ (x7_3 : Int) := od
             have q464 : x7_3 < (x5_2.length : Int) := od
             obtain ⟨ad464, e464, hx464_0, hx464_1⟩ := at_T113 (Kd.R_reads' HO_5.out).2.2 x7_3 p464 q464
             cases e464
             replace p464 := eq_true p464
             replace q464 := eq_true q464
             have p465 : 0 ≤ (x6_2 : Int) := od
             have q465 : x6_2 < (l0.length : Int) := od
             obtain ⟨ad465, e465, hx465_0, hx465_1⟩ := at_T113 HR0.out x6_2 p465 q465
             have hw465_1 := hx465_1
             have hw465_0 := hx465_0
             cases e465
             replace hx465_0 := kc HB hx465_0
             replace hx465_1 := kc HB hx465_1
             replace p465 := eq_true p465
             replace q465 := eq_true q465
             refine start_ (n := 17) (S := fun w' => w'.cell? (ad464.add ((x7_3).toNat * 2)) = some (.string ((rd_T113 x5_2 x7_3).f0)) ∧ w'.cell? ⟨(ad464.add ((x7_3).toNat * 2)).block, (ad464.add ((x7_3).toNat * 2)).off + 1, none⟩ = some (.string ((rd_T113 x5_2 x7_3).f1)) ∧ w'.cell? (ad465.add ((x6_2).toNat * 2)) = some (.string ((rd_T113 l0 x6_2).f0)) ∧ w'.cell? ⟨(ad465.add ((x6_2).toNat * 2)).block, (ad465.add ((x6_2).toNat * 2)).off + 1, none⟩ = some (.string ((rd_T113 l0 x6_2).f1))) (ds := []) _ (by kernel_rfl) rfl rfl ⟨hx464_0, hx464_1, (kc HB hw465_0), (kc HB hw465_1)⟩ (fun hHeld => ?_); refine with_tabW r03_Canon.tab13 r03_Canon.bits13 (fun HT_ HW_ => ?_)
             generalize wr.drew = w18 at HO_5 HB hx464_0 hx464_1 hx465_0 hx465_1 hHeld ⊢
             refine p1 0 (some 30) ?_
             refine p1 1 (some 31) ?_
             refine p1 2 (some 32) ?_
             refine p1 3 (some 33) ?_
             refine p1 4 (some 34) ?_
             refine p1 5 (some 35) ?_
             refine p1 6 (some 36) ?_
             refine p1 7 (some 37) ?_
             refine p1 8 (some 38) ?_
             refine p1 10 (some 40) ?_
             refine p1 11 (some 41) ?_
             refine p1 12 (some 42) ?_
             refine p1 13 (some 43) ?_
             refine t1 9 (some 39) rfl rfl hHeld (Or.inl ⟨by rfl, by rintro w' ⟨s0, s1, s2, s3⟩; go_simp; with_reducible rfl⟩) ?_
             refine t1 14 (some 44) rfl rfl hHeld (Or.inl ⟨by rfl, by rintro w' ⟨s0, s1, s2, s3⟩; go_simp; with_reducible rfl⟩) ?_
             refine p1 15 (some 45) ?_
             refine p1 16 (some 46) ?_
             refine done_ (done_of HT_.out (by kernel_rfl)) ?_
             try go_wp2
             replace HO_5 := Aside0.mk (Kd.R_drew HO_5.out)
             replace HB := Aside0.mk (below_drew1 HB.out)
             have p466 : 0 ≤ (x7_3 : Int) := od
             have q466 : x7_3 < (x5_2.length : Int) := od
             obtain ⟨ad466, e466, hx466_0, hx466_1⟩ := at_T113 (Kd.R_reads' HO_5.out).2.2 x7_3 p466 q466
             obtain rfl : ad464 = ad466 := (by injection e466)
             replace p466 := eq_true p466
             replace q466 := eq_true q466
             have p467 : 0 ≤ (x6_2 : Int) := od
             have q467 : x6_2 < (l0.length : Int) := od
             obtain ⟨ad467, e467, hx467_0, hx467_1⟩ := at_T113 HR0.out x6_2 p467 q467
             have hw467_1 := hx467_1
             have hw467_0 := hx467_0
             obtain rfl : ad465 = ad467 := (by injection e467)
             replace hx467_0 := kc HB hx467_0
             replace hx467_1 := kc HB hx467_1
             replace p467 := eq_true p467
             replace q467 := eq_true q467
             refine start_ (n := 17) (S := fun w' => w'.cell? (ad464.add ((x7_3).toNat * 2)) = some (.string ((rd_T113 x5_2 x7_3).f0)) ∧ w'.cell? ⟨(ad464.add ((x7_3).toNat * 2)).block, (ad464.add ((x7_3).toNat * 2)).off + 1, none⟩ = some (.string ((rd_T113 x5_2 x7_3).f1)) ∧ w'.cell? (ad465.add ((x6_2).toNat * 2)) = some (.string ((rd_T113 l0 x6_2).f0)) ∧ w'.cell? ⟨(ad465.add ((x6_2).toNat * 2)).block, (ad465.add ((x6_2).toNat * 2)).off + 1, none⟩ = some (.string ((rd_T113 l0 x6_2).f1))) (ds := []) _ (by kernel_rfl) rfl rfl ⟨hx466_0, hx466_1, (kc HB hw467_0), (kc HB hw467_1)⟩ (fun hHeld => ?_); refine with_tabW r03_Canon.tab15 r03_Canon.bits15 (fun HT_ HW_ => ?_)
             generalize w18.drew = w20 at HO_5 HB hx466_0 hx466_1 hx467_0 hx467_1 hHeld ⊢
             refine p1 0 (some 49) ?_
             refine p1 1 (some 50) ?_
             refine p1 2 (some 51) ?_
             refine p1 3 (some 52) ?_
             refine p1 4 (some 53) ?_
             refine p1 5 (some 54) ?_
             refine p1 6 (some 55) ?_
             refine p1 7 (some 56) ?_
             refine p1 8 (some 57) ?_
             refine p1 10 (some 59) ?_
             refine p1 11 (some 60) ?_
             refine p1 12 (some 61) ?_
             refine p1 13 (some 62) ?_
             refine t1 9 (some 58) rfl rfl hHeld (Or.inl ⟨by rfl, by rintro w' ⟨s0, s1, s2, s3⟩; go_simp; with_reducible rfl⟩) ?_
             refine t1 14 (some 63) rfl rfl hHeld (Or.inl ⟨by rfl, by rintro w' ⟨s0, s1, s2, s3⟩; go_simp; with_reducible rfl⟩) ?_
             refine p1 15 (some 64) ?_
             refine p1 16 (some 65) ?_
             refine done_ (done_of HT_.out (by kernel_rfl)) ?_
             try go_wp2
             go_ret2
             exact ⟨_, re_, nl_, uW HB.out⟩
            ·
             rw [if_neg c17] at H
             have c17b0 : (((rd_T113 x5_2 x7_3).f0).toList == ((rd_T113 l0 x6_2).f0).toList) = false := beq_eq_false_iff_ne.mpr c17
             have c17b1 : (((rd_T113 x5_2 x7_3).f0).toList != ((rd_T113 l0 x6_2).f0).toList) = true := bne_iff_ne.mpr c17
             obtain ⟨y468, Ny468, H⟩ := ys H
             try dsimp only at H
             have c21b0 := eq_true (od : 0 ≤ x7_3)
             obtain ⟨c22, H⟩ := gd H
             have c22b0 := eq_true c22
             have c22b1 : decide (x7_3 ≤ (x5_2.length : Int)) = true := decide_eq_true c22
             clear c22
             obtain ⟨y471, Ny471, H⟩ := ys H
             try dsimp only at H
             obtain ⟨c23, H⟩ := gd H
             have LMc23 := Aside0.mk c23
             clear c23
             obtain ⟨y475, Ny475, H⟩ := ys H
             try dsimp only at H
             have c24b0 := eq_true (od : x7_3 ≤ (x5_2.length : Int))
             obtain ⟨y478, Ny478, H⟩ := ys H
             try dsimp only at H
             obtain ⟨c25, H⟩ := gd H
             have LMc25 := Aside0.mk c25
             clear c25
             obtain ⟨y482, Ny482, H⟩ := ys H
             try dsimp only at H
             obtain ⟨c26, H⟩ := gd H
             have LMc26 := Aside0.mk c26
             clear c26
             obtain ⟨y485, hy485⟩ : ∃ y_ : List (S113), y_ = (y482 ++ y475) := ⟨_, rfl⟩
             replace H : (r03_Canon.l1 k3 l0 y485 (wrap64 (x6_2 + 1))) = some (r1, r2) := by first | (rw [hy485]; with_reducible exact H) | (have H2_ := (Option.bind_some _ _).symm.trans H; rw [hy485]; with_reducible exact H2_) | (have H2_ := (Option.bind_some _ _).symm.trans H; with_reducible exact H2_) | with_reducible exact H | (rw [hy485]; exact H) | exact H
             have Ny485 := Aside0.mk hy485
             clear hy485
             have H' := Aside0.mk H
             clear H
             try go_wp2
             replace HO_5 := Aside0.mk (Kd.R_drew HO_5.out)
             replace HB := Aside0.mk (below_drew1 HB.out)
             obtain ⟨Ao28, co28, eo28⟩ := Kd.R_slice HO_5.out
             (first | subst eo28 | (injection eo28 with f1_ f2_ f3_; have f4_ := f1_.symm; have f5_ := f3_.symm; clear f1_ f2_ f3_; subst f4_; subst f5_))
             have p464 : 0 ≤ (x7_3 : Int) := od
             have q464 : x7_3 < (x5_2.length : Int) := od
             obtain ⟨ad464, e464, hx464_0, hx464_1⟩ := at_T113 (Kd.R_reads' HO_5.out).2.2 x7_3 p464 q464
             cases e464
             replace p464 := eq_true p464
             replace q464 := eq_true q464
             have p465 : 0 ≤ (x6_2 : Int) := od
             have q465 : x6_2 < (l0.length : Int) := od
             obtain ⟨ad465, e465, hx465_0, hx465_1⟩ := at_T113 HR0.out x6_2 p465 q465
             have hw465_1 := hx465_1
             have hw465_0 := hx465_0
             cases e465
             replace hx465_0 := kc HB hx465_0
             replace hx465_1 := kc HB hx465_1
             replace p465 := eq_true p465
             replace q465 := eq_true q465
             refine start_ (n := 17) (S := fun w' => w'.cell? (ad464.add ((x7_3).toNat * 2)) = some (.string ((rd_T113 x5_2 x7_3).f0)) ∧ w'.cell? ⟨(ad464.add ((x7_3).toNat * 2)).block, (ad464.add ((x7_3).toNat * 2)).off + 1, none⟩ = some (.string ((rd_T113 x5_2 x7_3).f1)) ∧ w'.cell? (ad465.add ((x6_2).toNat * 2)) = some (.string ((rd_T113 l0 x6_2).f0)) ∧ w'.cell? ⟨(ad465.add ((x6_2).toNat * 2)).block, (ad465.add ((x6_2).toNat * 2)).off + 1, none⟩ = some (.string ((rd_T113 l0 x6_2).f1))) (ds := []) _ (by kernel_rfl) rfl rfl ⟨hx464_0, hx464_1, (kc HB hw465_0), (kc HB hw465_1)⟩ (fun hHeld => ?_); refine with_tabW r03_Canon.tab13 r03_Canon.bits13 (fun HT_ HW_ => ?_)
             generalize wr.drew = w27 at HO_5 HB hx464_0 hx464_1 hx465_0 hx465_1 hHeld ⊢
             refine p1 0 (some 30) ?_
             refine p1 1 (some 31) ?_
             refine p1 2 (some 32) ?_
             refine p1 3 (some 33) ?_
             refine p1 4 (some 34) ?_
             refine p1 5 (some 35) ?_
             refine p1 6 (some 36) ?_
             refine p1 7 (some 37) ?_
             refine p1 8 (some 38) ?_
             refine p1 10 (some 40) ?_
             refine p1 11 (some 41) ?_
             refine p1 12 (some 42) ?_
             refine p1 13 (some 43) ?_
             refine t1 9 (some 39) rfl rfl hHeld (Or.inl ⟨by rfl, by rintro w' ⟨s0, s1, s2, s3⟩; go_simp; with_reducible rfl⟩) ?_
             refine t1 14 (some 44) rfl rfl hHeld (Or.inl ⟨by rfl, by rintro w' ⟨s0, s1, s2, s3⟩; go_simp; with_reducible rfl⟩) ?_
             refine p1 15 (some 45) ?_
             refine p1 16 (some 46) ?_
             refine done_ (done_of HT_.out (by kernel_rfl)) ?_
             try go_wp2
             replace HO_5 := Aside0.mk (Kd.R_drew HO_5.out)
             replace HB := Aside0.mk (below_drew1 HB.out)
             have p466 : 0 ≤ (x7_3 : Int) := od
             have q466 : x7_3 < (x5_2.length : Int) := od
             obtain ⟨ad466, e466, hx466_0, hx466_1⟩ := at_T113 (Kd.R_reads' HO_5.out).2.2 x7_3 p466 q466
             obtain rfl : ad464 = ad466 := (by injection e466)
             replace p466 := eq_true p466
             replace q466 := eq_true q466
             have p467 : 0 ≤ (x6_2 : Int) := od
             have q467 : x6_2 < (l0.length : Int) := od
             obtain ⟨ad467, e467, hx467_0, hx467_1⟩ := at_T113 HR0.out x6_2 p467 q467
             have hw467_1 := hx467_1
             have hw467_0 := hx467_0
             obtain rfl : ad465 = ad467 := (by injection e467)
             replace hx467_0 := kc HB hx467_0
             replace hx467_1 := kc HB hx467_1
             replace p467 := eq_true p467
             replace q467 := eq_true q467
             refine start_ (n := 17) (S := fun w' => w'.cell? (ad464.add ((x7_3).toNat * 2)) = some (.string ((rd_T113 x5_2 x7_3).f0)) ∧ w'.cell? ⟨(ad464.add ((x7_3).toNat * 2)).block, (ad464.add ((x7_3).toNat * 2)).off + 1, none⟩ = some (.string ((rd_T113 x5_2 x7_3).f1)) ∧ w'.cell? (ad465.add ((x6_2).toNat * 2)) = some (.string ((rd_T113 l0 x6_2).f0)) ∧ w'.cell? ⟨(ad465.add ((x6_2).toNat * 2)).block, (ad465.add ((x6_2).toNat * 2)).off + 1, none⟩ = some (.string ((rd_T113 l0 x6_2).f1))) (ds := []) _ (by kernel_rfl) rfl rfl ⟨hx466_0, hx466_1, (kc HB hw467_0), (kc HB hw467_1)⟩ (fun hHeld => ?_); refine with_tabW r03_Canon.tab15 r03_Canon.bits15 (fun HT_ HW_ => ?_)
             generalize w27.drew = w29 at HO_5 HB hx466_0 hx466_1 hx467_0 hx467_1 hHeld ⊢
             refine p1 0 (some 49) ?_
             refine p1 1 (some 50) ?_
             refine p1 2 (some 51) ?_
             refine p1 3 (some 52) ?_
             refine p1 4 (some 53) ?_
             refine p1 5 (some 54) ?_
             refine p1 6 (some 55) ?_
             refine p1 7 (some 56) ?_
             refine p1 8 (some 57) ?_
             refine p1 10 (some 59) ?_
             refine p1 11 (some 60) ?_
             refine p1 12 (some 61) ?_
             refine p1 13 (some 62) ?_
             refine t1 9 (some 58) rfl rfl hHeld (Or.inl ⟨by rfl, by rintro w' ⟨s0, s1, s2, s3⟩; go_simp; with_reducible rfl⟩) ?_
             refine t1 14 (some 63) rfl rfl hHeld (Or.inl ⟨by rfl, by rintro w' ⟨s0, s1, s2, s3⟩; go_simp; with_reducible rfl⟩) ?_
             refine p1 15 (some 64) ?_
             refine p1 16 (some 65) ?_
             refine done_ (done_of HT_.out (by kernel_rfl)) ?_
             try go_wp2_with (first | ((with_reducible refine gate_dst (N := 66) rfl ?_); refine Kd.R_lit k113 _ 113 ?hg (N := 66) ?hd (xs := ([] : List (S113))) (inner := []) (ok := fun _ => True) (okp := fun _ => True) ?hr ?hp (fun _ hk => hk) trivial (Below.refl _ _) (Nat.le_refl _) (by simp) ?_; (case hd => rfl); (case hg => rfl); (case hr => first | (go_simp; done) | (go_simp; rfl)); (case hp => exact (Reps.none _ _)); intro v469 w30 ho31 hb hg_ hnew_; clear hg_ hnew_; (first | rw [← Ny468.out] at ho31 | (simp only [Int.reduceToNat] at ho31; rw [← Ny468.out] at ho31)); have HO470 := Aside0.mk (Kd.R_lower (Kd.R_new' ho31 (Kd.R_lt (uR HO_5.out))) (below_size (uW HB.out))); replace HO_5 := Aside0.mk (Kd.R_elder' (uR HO_5.out) (Kd.R_base ho31) hb); replace HB := cW HB hb; clear hb ho31; have q32 : (x7_3 : Int) ≤ ((x5_2.length : Int) : Int) := od; obtain ⟨i032, hi032, _, hsz32, _⟩ := info_parts info113; have hroom32 : x5_2.length ≤ co28 := (Kd.R_reads' HO_5.out).2.1; have hC32 : Kd.C k113 _ (some ad464) x5_2.length x5_2 := (Kd.R_reads' HO_5.out).2.2; have q032 : (0 : Int) ≤ (x7_3 : Int) := od; have hcut32 := cut_from (P := Tryz.prog) 92 113 .i64 Tryz.underlying92 hi032 2 hsz32 (some ad464) x5_2.length co28 x7_3 q032 q32; have hr32 := Kd.C_drop (m := (x7_3 : Int).toNat) (c := co28) hC32 (by omega) hroom32; obtain ⟨A32, hA32⟩ : ∃ A1, A1 = (if co28 = (x7_3 : Int).toNat then (some ad464) else ((some ad464) : Option Addr).map (·.add ((x7_3 : Int).toNat * 2))) := ⟨_, rfl⟩; obtain ⟨c32, hc32⟩ : ∃ c1, c1 = co28 - (x7_3 : Int).toNat := ⟨_, rfl⟩; have hy32 : y471.length = x5_2.length - (x7_3 : Int).toNat := (by rw [Ny471.out, List.length_drop] <;> omega); rw [show (x5_2).drop (x7_3 : Int).toNat = y471 from Ny471.out.symm] at hr32; replace hr32 : Kd.C k113 _ A32 y471.length y471 := (by rw [hA32]; exact hr32); rw [← hy32, ← hA32, ← hc32] at hcut32; have HR474 := Aside0.mk hr32; have HC474 := Aside0.mk (show y471.length ≤ c32 from by rw [hy32, hc32]; exact Nat.sub_le_sub_right hroom32 _); clear hr32 hC32 hroom32 hi032 hsz32 hc32; have KY32 := Aside0.mk hy32; have KA32 := Aside0.mk hA32; clear hy32 hA32; have KL32 := Aside0.mk (show (x7_3 : Int).toNat ≤ x5_2.length from by omega); replace q32 := eq_true q32) | ((with_reducible refine gate_builtin (b := .append) (xs := #[.tmp 66, .tmp 69]) rfl ?_); at_builtin; refine Kd.R_append_rows k113 (w0 := w) w.heap.size rfl (.tmp 66) (.tmp 69) 92 113 (.agg #[(.string ⟨#[]⟩), (.string ⟨#[]⟩)]) 32 rfl Tryz.underlying92 info113 rfl (by decide) (by omega) v469 y468 y471 _ _ _ (fun k_ => some k_ ≠ (.slice (some ad464) x5_2.length co28 : Value).ownBlock) (fun _ => False) rfl rfl ?aO ?aR (fun _ _ h => h) (fun _ h => h.elim) ?aF ?aB ?aS ?aL ?_; (case aR => repeat (first | exact (by repeat (first | (with_reducible exact HR474.out) | (with_reducible refine Kd.C_alloc ?_ _) | (with_reducible refine Kd.C_drewN ?_ _) | (with_reducible refine Kd.C_drew ?_) | exact HR474.out)) | (with_reducible refine Kd.C_alloc ?_ _) | (with_reducible refine Kd.C_drewN ?_ _) | (with_reducible refine Kd.C_drew ?_))); (case aB => exact (uW HB.out)); (case aF => exact (fun k_ hk => Kd.fresh' (Kd.R_lt (uR HO_5.out)) k_ hk)); (case aO => exact (by exact uR <| Kd.R_mono HO470.out (fun _ hk => hk.2))); (case aS => exact (below_size (uW HB.out))); (case aL => have := LMc23.out; omega); intro v476 w33 ho hb hg hat; rw [← Ny475.out] at ho; replace HB := Aside0.mk (hb); replace HR474 := Aside0.mk ((show Kd.C k113 w33 A32 y471.length y471 from by rw [Ny471.out, KA32.out]; exact Kd.C_drop (m := (x7_3 : Int).toNat) (c := co28) ((Kd.R_reads' (Kd.R_after (ok := (fun _ => True)) (uR HO_5.out) hg hat)).2.2) KL32.out ((Kd.R_reads' (Kd.R_after (ok := (fun _ => True)) (uR HO_5.out) hg hat)).2.1))); replace HO_5 := Aside0.mk (Kd.R_after (ok := (fun _ => True)) (uR HO_5.out) hg hat); have HO477 := Aside0.mk (ho); clear HO470; clear ho hb hg hat))
             replace HO_5 := Aside0.mk (Kd.R_drew HO_5.out)
             replace HO477 := Aside0.mk (Kd.R_drew HO477.out)
             replace HR474 := Aside0.mk (Kd.C_drew HR474.out)
             replace HB := Aside0.mk (below_drew1 HB.out)
             have q35 : (x7_3 : Int) ≤ ((x5_2.length : Int) : Int) := od
             obtain ⟨i035, hi035, _, hsz35, _⟩ := info_parts info113
             have hcut35 := cut_to (P := Tryz.prog) 92 113 .i64 Tryz.underlying92 hi035 (some ad464) x5_2.length co28 x7_3 (od) q35 (Kd.R_reads' HO_5.out).2.1
             have hr35 := Kd.R_take (m := (x7_3 : Int).toNat) HO_5.out (by omega)
             have hy35 : y478.length = (x7_3 : Int).toNat := (by rw [Ny478.out, List.length_take]; omega)
             rw [← Ny478.out] at hr35
             rw [← hy35] at hr35 hcut35
             clear hy35 hi035 hsz35 HO_5
             have HO480 := Aside0.mk hr35
             clear hr35
             replace q35 := eq_true q35
             have p481 : 0 ≤ (x6_2 : Int) := od
             have q481 : x6_2 < (l0.length : Int) := od
             obtain ⟨ad481, e481, hx481_0, hx481_1⟩ := at_T113 HR0.out x6_2 p481 q481
             have hw481_1 := hx481_1
             have hw481_0 := hx481_0
             obtain rfl : ad465 = ad481 := (by injection e481)
             replace hx481_0 := kc HB hx481_0
             replace hx481_1 := kc HB hx481_1
             replace p481 := eq_true p481
             replace q481 := eq_true q481
             refine start_ (n := 12) (S := fun w' => w'.cell? (ad465.add ((x6_2).toNat * 2)) = some (.string ((rd_T113 l0 x6_2).f0)) ∧ w'.cell? ⟨(ad465.add ((x6_2).toNat * 2)).block, (ad465.add ((x6_2).toNat * 2)).off + 1, none⟩ = some (.string ((rd_T113 l0 x6_2).f1))) (ds := []) _ (by kernel_rfl) rfl rfl ⟨(kc HB hw481_0), (kc HB hw481_1)⟩ (fun hHeld => ?_); refine with_tabW r03_Canon.tab18 r03_Canon.bits18 (fun HT_ HW_ => ?_)
             generalize w33.drew = w34 at HO477 HR474 HB HO480 hx481_0 hx481_1 hHeld ⊢
             refine p1 0 (some 71) ?_
             refine p1 1 (some 72) ?_
             refine p1 2 (some 73) ?_
             refine p1 3 (some 74) ?_
             refine p1 4 (some 75) ?_
             refine p1 5 (some 76) ?_
             refine p1 9 (some 80) ?_
             refine t1 6 (some 77) rfl rfl hHeld (Or.inl ⟨by rfl, by rintro w' ⟨s0, s1⟩; go_simp; with_reducible rfl⟩) ?_
             refine o1 7 (some 78) rfl rfl (fun K hK => ?_)
             refine value_ (w1 := ?_) (v := ?_) (by rfl) rfl ?_ ?_
             rotate_left 2
             ·
              go_simp
              constructor
              ·
               rfl
              ·
               rfl
             refine hK.out _ _ ⟨(World.cell?_alloc_lt _ _ _ (World.block_lt_of_cell? _ _ ((kc HB hw481_0)))).trans ((kc HB hw481_0)), (World.cell?_alloc_lt _ _ _ (World.block_lt_of_cell? _ _ ((kc HB hw481_1)))).trans ((kc HB hw481_1))⟩ (fun hHeld => ?_)
             clear hK K
             refine norm_ (a' := ?_) ?_ ?_
             rotate_left
             ·
              show Act.put _ (some 78) _ = _
              simp only [Act.put, List.setIfInBounds_toArray, List.set_cons_zero, List.set_cons_succ, i64_w, i32_w]
              rfl
             refine o1 8 (some 79) rfl rfl (fun K hK => ?_)
             refine Kd.R_append_step k113 (w0 := w) w.heap.size (by rfl) (.tmp 73) (.tmp 78) 92 113 (.agg #[(.string ⟨#[]⟩), (.string ⟨#[]⟩)]) 32 rfl Tryz.underlying92 info113 rfl (by decide) (by omega) (.slice (some ad464) y478.length co28) y478 (⟨(rd_T113 l0 x6_2).f0, (rd_T113 l0 x6_2).f1⟩ : S113) [.string ((rd_T113 l0 x6_2).f0), .string ((rd_T113 l0 x6_2).f1)] (fun k_ => some k_ ≠ (v476 : Value).ownBlock) (fun _ => False) rfl rfl ?aP (fun _ hk => hk.elim) ?aF ?aO ?aB ?aS ?aL ?_
             (case aP => exact k113_mkM _ _ _ (⟨(rd_T113 l0 x6_2).f0, (rd_T113 l0 x6_2).f1⟩ : S113))
             (case aB => exact (uW HB.out))
             (case aF => exact (fun k_ hk => Kd.fresh' (Kd.R_lt (uR HO477.out)) k_ hk))
             (case aO => exact (by exact uR <| Kd.R_mono HO480.out (fun _ hk => hk.2)))
             (case aS => exact (below_size (uW HB.out)))
             (case aL => have := LMc25.out; omega)
             intro v483 w36 ho hb hg hat
             rw [← Ny482.out] at ho
             replace HO477 := Aside0.mk (Kd.R_after (ok := (fun _ => True)) (by exact uR <| Kd.R_mono HO477.out (fun _ hk => ⟨trivial, hk⟩)) hg hat)
             replace HB := Aside0.mk (hb)
             have HO484 := Aside0.mk (ho)
             clear HO480
             clear ho hb hg hat
             obtain ⟨Ao38, co38, eo38⟩ := Kd.R_slice HO477.out
             (first | subst eo38 | (injection eo38 with f1_ f2_ f3_; have f4_ := f1_.symm; have f5_ := f3_.symm; clear f1_ f2_ f3_; subst f4_; subst f5_))
             refine hK.out _ _ ⟨(kc HB hw481_0), (kc HB hw481_1)⟩ (fun hHeld => ?_)
             clear hK K
             refine norm_ (a' := ?_) ?_ ?_
             rotate_left
             ·
              show Act.put _ (some 79) _ = _
              simp only [Act.put, List.setIfInBounds_toArray, List.set_cons_zero, List.set_cons_succ, i64_w, i32_w]
              rfl
             refine o1 10 (some 81) rfl rfl (fun K hK => ?_)
             refine Kd.R_append_rows_step k113 (w0 := w) w.heap.size (by rfl) (.tmp 79) (.tmp 80) 92 113 (.agg #[(.string ⟨#[]⟩), (.string ⟨#[]⟩)]) 32 rfl Tryz.underlying92 info113 rfl (by decide) (by omega) v483 y482 y475 _ _ _ (fun k_ => some k_ ≠ (.slice Ao38 y475.length co38 : Value).ownBlock) (fun _ => False) rfl rfl ?aO ?aR (fun _ _ h => h) (fun _ h => h.elim) ?aF ?aB ?aS ?aL ?_
             (case aR => exact uC <| (Kd.R_reads' HO477.out).2.2)
             (case aB => exact (uW HB.out))
             (case aF => exact (fun k_ hk => Kd.fresh' (Kd.R_lt (uR HO477.out)) k_ hk))
             (case aO => exact (uR HO484.out))
             (case aS => exact (below_size (uW HB.out)))
             (case aL => have := LMc26.out; omega)
             intro v486 w37 ho hb hg hat
             rw [← Ny485.out] at ho
             replace HO477 := Aside0.mk (Kd.R_after (ok := (fun _ => True)) (uR HO477.out) hg hat)
             replace HB := Aside0.mk (hb)
             have HO487 := Aside0.mk (ho)
             clear HO484
             clear ho hb hg hat
             refine hK.out _ _ ⟨(kc HB hw481_0), (kc HB hw481_1)⟩ (fun hHeld => ?_)
             clear hK K
             refine norm_ (a' := ?_) ?_ ?_
             rotate_left
             ·
              show Act.put _ (some 81) _ = _
              simp only [Act.put, List.setIfInBounds_toArray, List.set_cons_zero, List.set_cons_succ, i64_w, i32_w]
              rfl
             refine p1 11 (some 5) ?_
             refine done_ (done_of HT_.out (by kernel_rfl)) ?_
             try go_wp2
             go_roundg k3
             case measure => have := HK1.out; have := HK2.out; have := HK3.out; omega
             case rel => exact ⟨(y485), (wrap64 (x6_2 + 1)), rs_, H', ⟨by have := HK1.out; have := HK2.out; have := HK3.out; omega⟩, ⟨by exact uR <| Kd.R_mono HO487.out (fun _ hk => trivial)⟩, ⟨uW HB.out⟩⟩
          ·
           rw [if_neg c10] at H
           have c10b0 : decide (x7_3 < (x5_2.length : Int)) = false := decide_eq_false c10
           clear c10
           obtain ⟨y488, Ny488, H⟩ := ys H
           try dsimp only at H
           obtain ⟨c39, H⟩ := gd H
           have c39b0 := eq_true c39
           have c39b1 : decide (0 ≤ x7_3) = true := decide_eq_true c39
           clear c39
           obtain ⟨c40, H⟩ := gd H
           have c40b0 := eq_true c40
           have c40b1 : decide (x7_3 ≤ (x5_2.length : Int)) = true := decide_eq_true c40
           clear c40
           obtain ⟨y491, Ny491, H⟩ := ys H
           try dsimp only at H
           obtain ⟨c41, H⟩ := gd H
           have LMc41 := Aside0.mk c41
           clear c41
           obtain ⟨y495, Ny495, H⟩ := ys H
           try dsimp only at H
           have c42b0 := eq_true (od : x7_3 ≤ (x5_2.length : Int))
           obtain ⟨y498, Ny498, H⟩ := ys H
           try dsimp only at H
           obtain ⟨c43b0, H⟩ := gdd H
           obtain ⟨c44b0, H⟩ := gdd H
           obtain ⟨c45, H⟩ := gd H
           have LMc45 := Aside0.mk c45
           clear c45
           obtain ⟨y502, Ny502, H⟩ := ys H
           try dsimp only at H
           obtain ⟨c46, H⟩ := gd H
           have LMc46 := Aside0.mk c46
           clear c46
           obtain ⟨y505, hy505⟩ : ∃ y_ : List (S113), y_ = (y502 ++ y495) := ⟨_, rfl⟩
           replace H : (r03_Canon.l1 k3 l0 y505 (wrap64 (x6_2 + 1))) = some (r1, r2) := by first | (rw [hy505]; with_reducible exact H) | (have H2_ := (Option.bind_some _ _).symm.trans H; rw [hy505]; with_reducible exact H2_) | (have H2_ := (Option.bind_some _ _).symm.trans H; with_reducible exact H2_) | with_reducible exact H | (rw [hy505]; exact H) | exact H
           have Ny505 := Aside0.mk hy505
           clear hy505
           have H' := Aside0.mk H
           clear H
           try go_wp2
           replace HO_5 := Aside0.mk (Kd.R_drew HO_5.out)
           replace HB := Aside0.mk (below_drew1 HB.out)
           obtain ⟨Ao48, co48, eo48⟩ := Kd.R_slice HO_5.out
           (first | subst eo48 | (injection eo48 with f1_ f2_ f3_; have f4_ := f1_.symm; have f5_ := f3_.symm; clear f1_ f2_ f3_; subst f4_; subst f5_))
           refine start_ (n := 17) (S := fun w' => True) (ds := []) _ (by kernel_rfl) rfl rfl trivial (fun hHeld => ?_); refine with_tabW r03_Canon.tab13 r03_Canon.bits13 (fun HT_ HW_ => ?_)
           generalize wr.drew = w47 at HO_5 HB hHeld ⊢
           refine p1 0 (some 30) ?_
           refine p1 1 (some 31) ?_
           refine p1 2 (some 32) ?_
           refine p1 3 (some 33) ?_
           refine p1 4 (some 34) ?_
           refine p2 5 (some 35) ?_
           refine p2 6 (some 36) ?_
           refine p2 7 (some 37) ?_
           refine p2 8 (some 38) ?_
           refine p2 9 (some 39) ?_
           refine p2 10 (some 40) ?_
           refine p2 11 (some 41) ?_
           refine p2 12 (some 42) ?_
           refine p2 13 (some 43) ?_
           refine p2 14 (some 44) ?_
           refine p2 15 (some 45) ?_
           refine p1 16 (some 46) ?_
           refine done_ (done_of HT_.out (by kernel_rfl)) ?_
           try go_wp2
           replace HO_5 := Aside0.mk (Kd.R_drew HO_5.out)
           replace HB := Aside0.mk (below_drew1 HB.out)
           refine start_ (n := 17) (S := fun w' => True) (ds := []) _ (by kernel_rfl) rfl rfl trivial (fun hHeld => ?_); refine with_tabW r03_Canon.tab15 r03_Canon.bits15 (fun HT_ HW_ => ?_)
           generalize w47.drew = w49 at HO_5 HB hHeld ⊢
           refine p1 0 (some 49) ?_
           refine p1 1 (some 50) ?_
           refine p1 2 (some 51) ?_
           refine p1 3 (some 52) ?_
           refine p1 4 (some 53) ?_
           refine p2 5 (some 54) ?_
           refine p2 6 (some 55) ?_
           refine p2 7 (some 56) ?_
           refine p2 8 (some 57) ?_
           refine p2 9 (some 58) ?_
           refine p2 10 (some 59) ?_
           refine p2 11 (some 60) ?_
           refine p2 12 (some 61) ?_
           refine p2 13 (some 62) ?_
           refine p2 14 (some 63) ?_
           refine p2 15 (some 64) ?_
           refine p1 16 (some 65) ?_
           refine done_ (done_of HT_.out (by kernel_rfl)) ?_
           try go_wp2_with (first | ((with_reducible refine gate_dst (N := 66) rfl ?_); refine Kd.R_lit k113 _ 113 ?hg (N := 66) ?hd (xs := ([] : List (S113))) (inner := []) (ok := fun _ => True) (okp := fun _ => True) ?hr ?hp (fun _ hk => hk) trivial (Below.refl _ _) (Nat.le_refl _) (by simp) ?_; (case hd => rfl); (case hg => rfl); (case hr => first | (go_simp; done) | (go_simp; rfl)); (case hp => exact (Reps.none _ _)); intro v489 w50 ho51 hb hg_ hnew_; clear hg_ hnew_; (first | rw [← Ny488.out] at ho51 | (simp only [Int.reduceToNat] at ho51; rw [← Ny488.out] at ho51)); have HO490 := Aside0.mk (Kd.R_lower (Kd.R_new' ho51 (Kd.R_lt (uR HO_5.out))) (below_size (uW HB.out))); replace HO_5 := Aside0.mk (Kd.R_elder' (uR HO_5.out) (Kd.R_base ho51) hb); replace HB := cW HB hb; clear hb ho51; have q52 : (x7_3 : Int) ≤ ((x5_2.length : Int) : Int) := od; obtain ⟨i052, hi052, _, hsz52, _⟩ := info_parts info113; have hroom52 : x5_2.length ≤ co48 := (Kd.R_reads' HO_5.out).2.1; have hC52 : Kd.C k113 _ Ao48 x5_2.length x5_2 := (Kd.R_reads' HO_5.out).2.2; have q052 : (0 : Int) ≤ (x7_3 : Int) := od; have hcut52 := cut_from (P := Tryz.prog) 92 113 .i64 Tryz.underlying92 hi052 2 hsz52 Ao48 x5_2.length co48 x7_3 q052 q52; have hr52 := Kd.C_drop (m := (x7_3 : Int).toNat) (c := co48) hC52 (by omega) hroom52; obtain ⟨A52, hA52⟩ : ∃ A1, A1 = (if co48 = (x7_3 : Int).toNat then Ao48 else (Ao48 : Option Addr).map (·.add ((x7_3 : Int).toNat * 2))) := ⟨_, rfl⟩; obtain ⟨c52, hc52⟩ : ∃ c1, c1 = co48 - (x7_3 : Int).toNat := ⟨_, rfl⟩; have hy52 : y491.length = x5_2.length - (x7_3 : Int).toNat := (by rw [Ny491.out, List.length_drop] <;> omega); rw [show (x5_2).drop (x7_3 : Int).toNat = y491 from Ny491.out.symm] at hr52; replace hr52 : Kd.C k113 _ A52 y491.length y491 := (by rw [hA52]; exact hr52); rw [← hy52, ← hA52, ← hc52] at hcut52; have HR494 := Aside0.mk hr52; have HC494 := Aside0.mk (show y491.length ≤ c52 from by rw [hy52, hc52]; exact Nat.sub_le_sub_right hroom52 _); clear hr52 hC52 hroom52 hi052 hsz52 hc52; have KY52 := Aside0.mk hy52; have KA52 := Aside0.mk hA52; clear hy52 hA52; have KL52 := Aside0.mk (show (x7_3 : Int).toNat ≤ x5_2.length from by omega); replace q52 := eq_true q52) | ((with_reducible refine gate_builtin (b := .append) (xs := #[.tmp 66, .tmp 69]) rfl ?_); at_builtin; refine Kd.R_append_rows k113 (w0 := w) w.heap.size rfl (.tmp 66) (.tmp 69) 92 113 (.agg #[(.string ⟨#[]⟩), (.string ⟨#[]⟩)]) 32 rfl Tryz.underlying92 info113 rfl (by decide) (by omega) v489 y488 y491 _ _ _ (fun k_ => some k_ ≠ (.slice Ao48 x5_2.length co48 : Value).ownBlock) (fun _ => False) rfl rfl ?aO ?aR (fun _ _ h => h) (fun _ h => h.elim) ?aF ?aB ?aS ?aL ?_; (case aR => repeat (first | exact (by repeat (first | (with_reducible exact HR494.out) | (with_reducible refine Kd.C_alloc ?_ _) | (with_reducible refine Kd.C_drewN ?_ _) | (with_reducible refine Kd.C_drew ?_) | exact HR494.out)) | (with_reducible refine Kd.C_alloc ?_ _) | (with_reducible refine Kd.C_drewN ?_ _) | (with_reducible refine Kd.C_drew ?_))); (case aB => exact (uW HB.out)); (case aF => exact (fun k_ hk => Kd.fresh' (Kd.R_lt (uR HO_5.out)) k_ hk)); (case aO => exact (by exact uR <| Kd.R_mono HO490.out (fun _ hk => hk.2))); (case aS => exact (below_size (uW HB.out))); (case aL => have := LMc41.out; omega); intro v496 w53 ho hb hg hat; rw [← Ny495.out] at ho; replace HB := Aside0.mk (hb); replace HR494 := Aside0.mk ((show Kd.C k113 w53 A52 y491.length y491 from by rw [Ny491.out, KA52.out]; exact Kd.C_drop (m := (x7_3 : Int).toNat) (c := co48) ((Kd.R_reads' (Kd.R_after (ok := (fun _ => True)) (uR HO_5.out) hg hat)).2.2) KL52.out ((Kd.R_reads' (Kd.R_after (ok := (fun _ => True)) (uR HO_5.out) hg hat)).2.1))); replace HO_5 := Aside0.mk (Kd.R_after (ok := (fun _ => True)) (uR HO_5.out) hg hat); have HO497 := Aside0.mk (ho); clear HO490; clear ho hb hg hat))
           replace HO_5 := Aside0.mk (Kd.R_drew HO_5.out)
           replace HO497 := Aside0.mk (Kd.R_drew HO497.out)
           replace HR494 := Aside0.mk (Kd.C_drew HR494.out)
           replace HB := Aside0.mk (below_drew1 HB.out)
           have q55 : (x7_3 : Int) ≤ ((x5_2.length : Int) : Int) := od
           obtain ⟨i055, hi055, _, hsz55, _⟩ := info_parts info113
           have hcut55 := cut_to (P := Tryz.prog) 92 113 .i64 Tryz.underlying92 hi055 Ao48 x5_2.length co48 x7_3 (od) q55 (Kd.R_reads' HO_5.out).2.1
           have hr55 := Kd.R_take (m := (x7_3 : Int).toNat) HO_5.out (by omega)
           have hy55 : y498.length = (x7_3 : Int).toNat := (by rw [Ny498.out, List.length_take]; omega)
           rw [← Ny498.out] at hr55
           rw [← hy55] at hr55 hcut55
           clear hy55 hi055 hsz55 HO_5
           have HO500 := Aside0.mk hr55
           clear hr55
           replace q55 := eq_true q55
           have p501 : 0 ≤ (x6_2 : Int) := od
           have q501 : x6_2 < (l0.length : Int) := od
           obtain ⟨ad501, e501, hx501_0, hx501_1⟩ := at_T113 HR0.out x6_2 p501 q501
           have hw501_1 := hx501_1
           have hw501_0 := hx501_0
           cases e501
           replace hx501_0 := kc HB hx501_0
           replace hx501_1 := kc HB hx501_1
           replace p501 := eq_true p501
           replace q501 := eq_true q501
           refine start_ (n := 12) (S := fun w' => w'.cell? (ad501.add ((x6_2).toNat * 2)) = some (.string ((rd_T113 l0 x6_2).f0)) ∧ w'.cell? ⟨(ad501.add ((x6_2).toNat * 2)).block, (ad501.add ((x6_2).toNat * 2)).off + 1, none⟩ = some (.string ((rd_T113 l0 x6_2).f1))) (ds := []) _ (by kernel_rfl) rfl rfl ⟨(kc HB hw501_0), (kc HB hw501_1)⟩ (fun hHeld => ?_); refine with_tabW r03_Canon.tab18 r03_Canon.bits18 (fun HT_ HW_ => ?_)
           generalize w53.drew = w54 at HO497 HR494 HB HO500 hx501_0 hx501_1 hHeld ⊢
           refine p1 0 (some 71) ?_
           refine p1 1 (some 72) ?_
           refine p1 2 (some 73) ?_
           refine p1 3 (some 74) ?_
           refine p1 4 (some 75) ?_
           refine p1 5 (some 76) ?_
           refine p1 9 (some 80) ?_
           refine t1 6 (some 77) rfl rfl hHeld (Or.inl ⟨by rfl, by rintro w' ⟨s0, s1⟩; go_simp; with_reducible rfl⟩) ?_
           refine o1 7 (some 78) rfl rfl (fun K hK => ?_)
           refine value_ (w1 := ?_) (v := ?_) (by rfl) rfl ?_ ?_
           rotate_left 2
           ·
            go_simp
            constructor
            ·
             rfl
            ·
             rfl
           refine hK.out _ _ ⟨(World.cell?_alloc_lt _ _ _ (World.block_lt_of_cell? _ _ ((kc HB hw501_0)))).trans ((kc HB hw501_0)), (World.cell?_alloc_lt _ _ _ (World.block_lt_of_cell? _ _ ((kc HB hw501_1)))).trans ((kc HB hw501_1))⟩ (fun hHeld => ?_)
           clear hK K
           refine norm_ (a' := ?_) ?_ ?_
           rotate_left
           ·
            show Act.put _ (some 78) _ = _
            simp only [Act.put, List.setIfInBounds_toArray, List.set_cons_zero, List.set_cons_succ, i64_w, i32_w]
            rfl
           refine o1 8 (some 79) rfl rfl (fun K hK => ?_)
           refine Kd.R_append_step k113 (w0 := w) w.heap.size (by rfl) (.tmp 73) (.tmp 78) 92 113 (.agg #[(.string ⟨#[]⟩), (.string ⟨#[]⟩)]) 32 rfl Tryz.underlying92 info113 rfl (by decide) (by omega) (.slice Ao48 y498.length co48) y498 (⟨(rd_T113 l0 x6_2).f0, (rd_T113 l0 x6_2).f1⟩ : S113) [.string ((rd_T113 l0 x6_2).f0), .string ((rd_T113 l0 x6_2).f1)] (fun k_ => some k_ ≠ (v496 : Value).ownBlock) (fun _ => False) rfl rfl ?aP (fun _ hk => hk.elim) ?aF ?aO ?aB ?aS ?aL ?_
           (case aP => exact k113_mkM _ _ _ (⟨(rd_T113 l0 x6_2).f0, (rd_T113 l0 x6_2).f1⟩ : S113))
           (case aB => exact (uW HB.out))
           (case aF => exact (fun k_ hk => Kd.fresh' (Kd.R_lt (uR HO497.out)) k_ hk))
           (case aO => exact (by exact uR <| Kd.R_mono HO500.out (fun _ hk => hk.2)))
           (case aS => exact (below_size (uW HB.out)))
           (case aL => have := LMc45.out; omega)
           intro v503 w56 ho hb hg hat
           rw [← Ny502.out] at ho
           replace HO497 := Aside0.mk (Kd.R_after (ok := (fun _ => True)) (by exact uR <| Kd.R_mono HO497.out (fun _ hk => ⟨trivial, by first | exact hk | (revert hk; cases Ao48 <;> exact id)⟩)) hg hat)
           replace HB := Aside0.mk (hb)
           have HO504 := Aside0.mk (ho)
           clear HO500
           clear ho hb hg hat
           obtain ⟨Ao58, co58, eo58⟩ := Kd.R_slice HO497.out
           (first | subst eo58 | (injection eo58 with f1_ f2_ f3_; have f4_ := f1_.symm; have f5_ := f3_.symm; clear f1_ f2_ f3_; subst f4_; subst f5_))
           refine hK.out _ _ ⟨(kc HB hw501_0), (kc HB hw501_1)⟩ (fun hHeld => ?_)
           clear hK K
           refine norm_ (a' := ?_) ?_ ?_
           rotate_left
           ·
            show Act.put _ (some 79) _ = _
            simp only [Act.put, List.setIfInBounds_toArray, List.set_cons_zero, List.set_cons_succ, i64_w, i32_w]
            rfl
           refine o1 10 (some 81) rfl rfl (fun K hK => ?_)
           refine Kd.R_append_rows_step k113 (w0 := w) w.heap.size (by rfl) (.tmp 79) (.tmp 80) 92 113 (.agg #[(.string ⟨#[]⟩), (.string ⟨#[]⟩)]) 32 rfl Tryz.underlying92 info113 rfl (by decide) (by omega) v503 y502 y495 _ _ _ (fun k_ => some k_ ≠ (.slice Ao58 y495.length co58 : Value).ownBlock) (fun _ => False) rfl rfl ?aO ?aR (fun _ _ h => h) (fun _ h => h.elim) ?aF ?aB ?aS ?aL ?_
           (case aR => exact uC <| (Kd.R_reads' HO497.out).2.2)
           (case aB => exact (uW HB.out))
           (case aF => exact (fun k_ hk => Kd.fresh' (Kd.R_lt (uR HO497.out)) k_ hk))
           (case aO => exact (uR HO504.out))
           (case aS => exact (below_size (uW HB.out)))
           (case aL => have := LMc46.out; omega)
           intro v506 w57 ho hb hg hat
           rw [← Ny505.out] at ho
           replace HO497 := Aside0.mk (Kd.R_after (ok := (fun _ => True)) (uR HO497.out) hg hat)
           replace HB := Aside0.mk (hb)
           have HO507 := Aside0.mk (ho)
           clear HO504
           clear ho hb hg hat
           refine hK.out _ _ ⟨(kc HB hw501_0), (kc HB hw501_1)⟩ (fun hHeld => ?_)
           clear hK K
           refine norm_ (a' := ?_) ?_ ?_
           rotate_left
           ·
            show Act.put _ (some 81) _ = _
            simp only [Act.put, List.setIfInBounds_toArray, List.set_cons_zero, List.set_cons_succ, i64_w, i32_w]
            rfl
           refine p1 11 (some 5) ?_
           refine done_ (done_of HT_.out (by kernel_rfl)) ?_
           try go_wp2
           go_roundg k3
           case measure => have := HK1.out; have := HK2.out; have := HK3.out; omega
           case rel => exact ⟨(y505), (wrap64 (x6_2 + 1)), rs_, H', ⟨by have := HK1.out; have := HK2.out; have := HK3.out; omega⟩, ⟨by exact uR <| Kd.R_mono HO507.out (fun _ hk => trivial)⟩, ⟨uW HB.out⟩⟩
       ·
        rw [if_neg c9] at H
        have c9b0 : decide (x6_2 < (l0.length : Int)) = false := decide_eq_false c9
        clear c9
        simp only [Option.some.injEq, Prod.mk.injEq] at H
        obtain ⟨rfl, rfl⟩ := H
        go_wp2
        go_ret2
        exact ⟨_, re_, uR HO_5.out, uW HB.out⟩
def r03_Parse.l0 : Nat → List (S113) → List ByteArray → Int → Option ((List (S113)) × Int)
 | 0, _, _, _ => none
 | k + 1, x4, x5, x6 => if x6 < (x5.length : Int) then (if 0 ≤ x6 then ((r02_Split.f k (rdOf ByteArray.empty x5 x6) 61).bind fun t516 => (if (t516.length : Int) < 2 then (some (([] : List (S113)), 2)) else (if 0 < (t516.length : Int) then (if 1 ≤ (t516.length : Int) then ((r02_Join.f k (⟨#[61]⟩ : ByteArray) (t516.drop 1)).bind fun t524 => (if x4.length < 4398046511104 then (r03_Parse.l0 k (x4 ++ [(⟨rdOf ByteArray.empty t516 0, t524⟩ : S113)]) x5 (wrap64 (x6 + 1))) else (none))) else (none)) else (none)))) else (none)) else ((r03_Canon.f k x4).bind fun bt511 => (some (bt511.1, bt511.2)))
def r03_Parse.f (k : Nat) (a0 : ByteArray) : Option ((List (S113)) × Int) := if a0.toList = ([] : List UInt8) then (some (([] : List (S113)), 0)) else ((r02_Split.f k a0 44).bind fun t508 => (r03_Parse.l0 k ([] : List (S113)) t508 0))
theorem r03_Parse.mono_l : ∀ k, (∀ y0 y1 y2, LeC (r03_Parse.l0 k y0 y1 y2) (r03_Parse.l0 (k + 1) y0 y1 y2))
 | 0 => fun _ _ _ => ⟨fun r h => by simp [r03_Parse.l0] at h⟩
 | k + 1 => by have ih0 := r03_Parse.mono_l k; exact fun _ _ _ => by unfold r03_Parse.l0; exact lm
theorem r03_Parse.mono : ∀ a0 k, LeO (r03_Parse.f k a0) (r03_Parse.f (k + 1) a0) := by
 intro a0 k
 have ih0 := r03_Parse.mono_l k
 unfold r03_Parse.f
 exact lo
instance r03_Parse.mI {a0 k} : LeC (r03_Parse.f k a0) (r03_Parse.f (k + 1) a0) := ⟨r03_Parse.mono _ _⟩
def r03_Parse.T11 : Bool × List (List Nat × List Nat) := (true, [([], []), ([], []), ([1], [1]), ([2], [2]), ([], []), ([4], [4]), ([5], [5]), ([3, 6], [3, 6]), ([7], [7]), ([0, 8, 6], [0, 8]), ([9, 9, 0, 1, 2, 3, 4, 5, 6, 7, 8, 9], [0, 9])])
def r03_Parse.B11 : List Nat := [0, 0, 2, 6, 0, 16, 48, 126, 254, 511, 1023]
theorem r03_Parse.tab11 : rtab .any (opsOf Tryz.f75 11) = r03_Parse.T11 := by kernel_rfl
theorem r03_Parse.bits11 : waitsOk r03_Parse.T11.2 r03_Parse.B11 = true := by kernel_rfl
theorem r03_Parse.calls (k : Nat) (a0 : ByteArray) (r1 : List (S113)) (r2 : Int) (w : World) (h : r03_Parse.f k a0 = some (r1, r2)) :
 Calls Tryz.prog 75 #[.string a0] w fun e w' => ∃ v0_ : Value, e = .returned (.tuple #[v0_, .int .i64 r2]) ∧ Kd.R k113 113 w' w.heap.size (fun _ => True) v0_ r1 ∧ Below w.heap.size w w' := by
 have hu113 := Tryz.underlying113
 have HB := Aside0.mk (Below.refl w.heap.size w)
 have H : (if a0.toList = ([] : List UInt8) then (some (([] : List (S113)), 0)) else ((r02_Split.f k a0 44).bind fun t508 => (r03_Parse.l0 k ([] : List (S113)) t508 0))) = some (r1, r2) := h
 clear h
 by_cases c2 : a0.toList = ([] : List UInt8)
 ·
  rw [if_pos c2] at H
  have c2b0 : (a0.toList == ([] : List UInt8)) = true := beq_iff_eq.mpr c2
  have c2b1 : (a0.toList != ([] : List UInt8)) = false := bne_eq_false_iff_eq.mpr c2
  clear c2
  simp only [Option.some.injEq, Prod.mk.injEq] at H
  obtain ⟨rfl, rfl⟩ := H
  go_enter Tryz.func75, Tryz.ntmps75
  go_wp2
  go_ret2
  exact ⟨_, re_, nl_, uW HB.out⟩
 ·
  rw [if_neg c2] at H
  have c2b0 : (a0.toList == ([] : List UInt8)) = false := beq_eq_false_iff_ne.mpr c2
  have c2b1 : (a0.toList != ([] : List UInt8)) = true := bne_iff_ne.mpr c2
  obtain ⟨t508, A3, H⟩ := bs H
  try dsimp only at H
  have H' := Aside0.mk H
  clear H
  go_enter Tryz.func75, Tryz.ntmps75
  go_wp2_with (first | (refine gL (some 11) rfl Tryz.func47 #[.string a0, .int .u8 44] ?_; (with_reducible refine (r02_Split.calls k a0 44 t508 _ A3.out).mono ?_); rintro e w4 ⟨v509, rfl, ho0, hb⟩; refine ⟨_, rfl, ?_⟩; have HO510 := Aside0.mk (Kd.R_lower ho0 (below_size (uW HB.out))); replace HB := cW HB hb; (try clear hb); (try clear ho0)))
  (try simp only [Act.put, List.setIfInBounds_toArray, List.set_cons_zero, List.set_cons_succ])
  go_loopg [4, 6] k (fun kq v4 v6 w' => ∃ (x4_1 : List (S113)) (x6_1 : Int), v6 = .int .i64 x6_1 ∧ Aside0 (r03_Parse.l0 kq x4_1 t508 x6_1 = some (r1, r2)) ∧ Aside0 (kq ≤ k) ∧ Aside0 (Kd.R k113 113 w' w.heap.size (fun _ => True) v4 x4_1) ∧ Aside0 (Kd.R Kd.string 9 w' w.heap.size (fun _ => True) v509 t508) ∧ Aside0 (Below w.heap.size w w'))
  case atStart => exact ⟨(([] : List (S113))), (0), rs_, H', ⟨Nat.le_refl _⟩, ⟨nl_⟩, ⟨uR HO510.out⟩, ⟨uW HB.out⟩⟩
  case round =>
   clear H'
   try clear c2
   try clear c2b0
   try clear c2b1
   obtain ⟨x4_1, x6_1, rfl, HA, HK1, HO_4, HO_5, HB⟩ := hrel
   cases gk with
   | zero => exact absurd HA.out (by simp [r03_Parse.l0])
   | succ k1 =>
    have H := HA.out
    clear HA
    simp only [r03_Parse.l0] at H
    by_cases c5 : x6_1 < (t508.length : Int)
    ·
     rw [if_pos c5] at H
     have c5b0 : decide (x6_1 < (t508.length : Int)) = true := decide_eq_true c5
     clear c5
     obtain ⟨c6b0, H⟩ := gdd H
     obtain ⟨t516, A7, H⟩ := bs H
     try dsimp only at H
     by_cases c8 : (t516.length : Int) < 2
     ·
      rw [if_pos c8] at H
      have c8b0 : decide ((t516.length : Int) < 2) = true := decide_eq_true c8
      have c8b1 : decide (t516.length < 2) = true := decide_eq_true (by omega)
      clear c8
      simp only [Option.some.injEq, Prod.mk.injEq] at H
      obtain ⟨rfl, rfl⟩ := H
      obtain ⟨Ao9, co9, eo9⟩ := Kd.R_slice HO_5.out
      subst eo9
      have p515 : 0 ≤ (x6_1 : Int) := od
      have q515 : x6_1 < (t508.length : Int) := od
      obtain ⟨ad515, e515, hx515_0⟩ := Kd.at_string (Kd.R_reads' HO_5.out).2.2 x6_1 p515 q515
      cases e515
      replace p515 := eq_true p515
      replace q515 := eq_true q515
      go_wp2_with (first | (refine gL (some 22) rfl Tryz.func47 #[.string (rdOf ByteArray.empty t508 x6_1), .int .u8 61] ?_; (with_reducible refine (r02_Split.calls k1 (rdOf ByteArray.empty t508 x6_1) 61 t516 _ A7.out).mono ?_); rintro e w10 ⟨v517, rfl, ho0, hb⟩; refine ⟨_, rfl, ?_⟩; replace HO_4 := cR HO_4 hb; have HO518 := Aside0.mk (Kd.R_lower (Kd.R_new' ho0 (Kd.R_lt (uR HO_5.out))) (below_size (uW HB.out))); replace HO_5 := Aside0.mk (Kd.R_elder' (uR HO_5.out) (Kd.R_base ho0) hb); replace HB := cW HB hb; (try clear hb); (try clear ho0); obtain ⟨Ao11, co11, eo11⟩ := Kd.R_slice HO518.out; subst eo11))
      go_ret2
      exact ⟨_, re_, nl_, uW HB.out⟩
     ·
      rw [if_neg c8] at H
      have c8b0 : decide ((t516.length : Int) < 2) = false := decide_eq_false c8
      have c8b1 : decide (t516.length < 2) = false := decide_eq_false (by omega)
      clear c8
      obtain ⟨c12, H⟩ := gd H
      have c12b0 : decide (0 < (t516.length : Int)) = true := decide_eq_true c12
      have c12b1 : decide (0 < t516.length) = true := decide_eq_true (by omega)
      clear c12
      obtain ⟨c13, H⟩ := gd H
      have c13b0 := eq_true c13
      have c13b1 : decide (1 ≤ (t516.length : Int)) = true := decide_eq_true c13
      clear c13
      obtain ⟨y520, hy520⟩ : ∃ y_ : List ByteArray, y_ = (t516.drop 1) := ⟨_, rfl⟩
      replace H : ((r02_Join.f k1 (⟨#[61]⟩ : ByteArray) y520).bind fun t524 => (if x4_1.length < 4398046511104 then (r03_Parse.l0 k1 (x4_1 ++ [(⟨rdOf ByteArray.empty t516 0, t524⟩ : S113)]) t508 (wrap64 (x6_1 + 1))) else (none))) = some (r1, r2) := by first | (rw [hy520]; with_reducible exact H) | (have H2_ := (Option.bind_some _ _).symm.trans H; rw [hy520]; with_reducible exact H2_) | (have H2_ := (Option.bind_some _ _).symm.trans H; with_reducible exact H2_) | with_reducible exact H | (rw [hy520]; exact H) | exact H
      have Ny520 := Aside0.mk hy520
      clear hy520
      obtain ⟨t524, A14, H⟩ := bs H
      try dsimp only at H
      obtain ⟨c15, H⟩ := gd H
      have LMc15 := Aside0.mk c15
      clear c15
      obtain ⟨y525, hy525⟩ : ∃ y_ : List (S113), y_ = (x4_1 ++ [(⟨rdOf ByteArray.empty t516 0, t524⟩ : S113)]) := ⟨_, rfl⟩
      replace H : (r03_Parse.l0 k1 y525 t508 (wrap64 (x6_1 + 1))) = some (r1, r2) := by first | (rw [hy525]; with_reducible exact H) | (have H2_ := (Option.bind_some _ _).symm.trans H; rw [hy525]; with_reducible exact H2_) | (have H2_ := (Option.bind_some _ _).symm.trans H; with_reducible exact H2_) | with_reducible exact H | (rw [hy525]; exact H) | exact H
      have Ny525 := Aside0.mk hy525
      clear hy525
      have H' := Aside0.mk H
      clear H
      obtain ⟨Ao16, co16, eo16⟩ := Kd.R_slice HO_5.out
      subst eo16
      have p515 : 0 ≤ (x6_1 : Int) := od
      have q515 : x6_1 < (t508.length : Int) := od
      obtain ⟨ad515, e515, hx515_0⟩ := Kd.at_string (Kd.R_reads' HO_5.out).2.2 x6_1 p515 q515
      cases e515
      replace p515 := eq_true p515
      replace q515 := eq_true q515
      try go_wp2_with (first | (refine gL (some 22) rfl Tryz.func47 #[.string (rdOf ByteArray.empty t508 x6_1), .int .u8 61] ?_; (with_reducible refine (r02_Split.calls k1 (rdOf ByteArray.empty t508 x6_1) 61 t516 _ A7.out).mono ?_); rintro e w17 ⟨v517, rfl, ho0, hb⟩; refine ⟨_, rfl, ?_⟩; replace HO_4 := cR HO_4 hb; have HO518 := Aside0.mk (Kd.R_lower (Kd.R_new' ho0 (Kd.R_lt (uR HO_5.out))) (below_size (uW HB.out))); replace HO_5 := Aside0.mk (Kd.R_elder' (uR HO_5.out) (Kd.R_base ho0) hb); replace HB := cW HB hb; (try clear hb); (try clear ho0); obtain ⟨Ao18, co18, eo18⟩ := Kd.R_slice HO518.out; subst eo18))
      replace HO_4 := Aside0.mk (Kd.R_drew HO_4.out)
      replace HO_5 := Aside0.mk (Kd.R_drew HO_5.out)
      replace HO518 := Aside0.mk (Kd.R_drew HO518.out)
      replace HB := Aside0.mk (below_drew1 HB.out)
      have p519 : 0 ≤ (0 : Int) := (by omega)
      have q519 : 0 < (t516.length : Int) := od
      obtain ⟨ad519, e519, hx519_0⟩ := Kd.at_string (Kd.R_reads' HO518.out).2.2 0 p519 q519
      cases e519
      have qi519 : (0 < t516.length) = True := eq_true (by omega)
      (try rw [show ((0 : Int)).toNat = 0 from rfl] at hx519_0)
      (try rw [Addr.add_zero'] at hx519_0)
      replace p519 := eq_true p519
      replace q519 := eq_true q519
      have q20 : (1 : Int) ≤ ((t516.length : Int) : Int) := od
      obtain ⟨i020, hi020, _, hsz20, _⟩ := info_parts info9
      have hroom20 : t516.length ≤ co18 := (Kd.R_reads' HO518.out).2.1
      have hC20 : Kd.C Kd.string _ (some ad519) t516.length t516 := (Kd.R_reads' HO518.out).2.2
      have hcut20 := cut_from (P := Tryz.prog) 56 9 .i64 Tryz.underlying56 hi020 1 hsz20 (some ad519) t516.length co18 1 (by omega) q20
      have hr20 := Kd.C_drop (m := (1 : Int).toNat) (c := co18) hC20 (by omega) hroom20
      obtain ⟨A20, hA20⟩ : ∃ A1, A1 = (if co18 = (1 : Int).toNat then (some ad519) else ((some ad519) : Option Addr).map (·.add ((1 : Int).toNat * 1))) := ⟨_, rfl⟩
      obtain ⟨c20, hc20⟩ : ∃ c1, c1 = co18 - (1 : Int).toNat := ⟨_, rfl⟩
      have hy20 : y520.length = t516.length - (1 : Int).toNat := (by rw [Ny520.out, List.length_drop] <;> omega)
      rw [show (t516).drop (1 : Int).toNat = y520 from Ny520.out.symm] at hr20
      replace hr20 : Kd.C Kd.string _ A20 y520.length y520 := (by rw [hA20]; exact hr20)
      rw [← hy20, ← hA20, ← hc20] at hcut20
      have HR523 := Aside0.mk hr20
      have HC523 := Aside0.mk (show y520.length ≤ c20 from by rw [hy20, hc20]; exact Nat.sub_le_sub_right hroom20 _)
      clear hr20 hC20 hroom20 hi020 hsz20 hc20
      have KY20 := Aside0.mk hy20
      have KA20 := Aside0.mk hA20
      clear hy20 hA20
      have KL20 := Aside0.mk (show 1 ≤ t516.length from by omega)
      replace q20 := eq_true q20
      refine start_ (n := 11) (S := fun w' => w'.cell? ad519 = some (.string (rdOf ByteArray.empty t516 0))) (ds := [8, 9]) _ (by kernel_rfl) rfl rfl (hx519_0) (fun hHeld => ?_); refine with_tabW r03_Parse.tab11 r03_Parse.bits11 (fun HT_ HW_ => ?_)
      generalize w17.drew = w19 at HO_4 HO_5 HO518 HB HR523 hx519_0 hHeld ⊢
      refine p1 0 (some 26) ?_
      refine p1 1 (some 27) ?_
      refine p1 2 (some 28) ?_
      refine p1 4 (some 30) ?_
      refine p1 5 (some 31) ?_
      refine t1 3 (some 29) rfl rfl hHeld (Or.inl ⟨by rfl, by intro w' s0; go_simp; with_reducible rfl⟩) ?_
      refine o1 6 (some 32) rfl rfl (fun K hK => ?_)
      refine gS Tryz.func66 #[.string (⟨#[61]⟩ : ByteArray), .slice A20 y520.length c20] ?_
      with_reducible refine (r02_Join.calls k1 (⟨#[61]⟩ : ByteArray) _ _ y520 t524 _ ?side1 ?side2 A14.out).mono ?_
      (case side1 => repeat (first | exact (by repeat (first | (with_reducible exact HR523.out) | (with_reducible refine Kd.C_alloc ?_ _) | (with_reducible refine Kd.C_drewN ?_ _) | (with_reducible refine Kd.C_drew ?_) | exact HR523.out)) | (with_reducible refine Kd.C_alloc ?_ _) | (with_reducible refine Kd.C_drewN ?_ _) | (with_reducible refine Kd.C_drew ?_)))
      (case side2 => exact HC523.out)
      rintro e w' ⟨rfl, ⟨nd, rfl⟩⟩
      refine ⟨_, rfl, ?_⟩
      refine hK.out _ _ (hHeld) (fun hHeld => ?_)
      clear hK K
      refine norm_ (a' := ?_) ?_ ?_
      rotate_left
      ·
       show Act.put _ (some 32) _ = _
       simp only [Act.put, List.setIfInBounds_toArray, List.set_cons_zero, List.set_cons_succ, i64_w, i32_w]
       rfl
      refine p1 7 (some 33) ?_
      refine l1_ 8 (some 34) rfl rfl (fun K hK => ?_)
      refine value_ (w1 := ?_) (v := ?_) (by rfl) rfl ?_ ?_
      rotate_left 2
      ·
       go_simp
       constructor
       ·
        rfl
       ·
        rfl
      refine hK.out _ _ ?_
      clear hK K
      refine norm_ (a' := ?_) ?_ ?_
      rotate_left
      ·
       show Act.put _ (some 34) _ = _
       simp only [Act.put, List.setIfInBounds_toArray, List.set_cons_zero, List.set_cons_succ, i64_w, i32_w]
       rfl
      refine l1_ 9 (some 35) rfl rfl (fun K hK => ?_)
      refine Kd.R_append_step k113 (w0 := w) w.heap.size (by rfl) (.tmp 26) (.tmp 34) 92 113 (.agg #[(.string ⟨#[]⟩), (.string ⟨#[]⟩)]) 32 rfl Tryz.underlying92 info113 rfl (by decide) (by omega) u4 x4_1 (⟨rdOf ByteArray.empty t516 0, t524⟩ : S113) [.string (rdOf ByteArray.empty t516 0), .string t524] (fun _ => True) (fun _ => False) rfl rfl ?aP (fun _ hk => hk.elim) ?aF ?aO ?aB ?aS ?aL ?_
      (case aP => exact k113_mkM _ _ _ (⟨rdOf ByteArray.empty t516 0, t524⟩ : S113))
      (case aB => exact (uW HB.out))
      (case aF => exact (fun _ _ => trivial))
      (case aO => exact (uR HO_4.out))
      (case aS => exact (below_size (uW HB.out)))
      (case aL => have := LMc15.out; omega)
      intro v526 w21 ho hb hg hat
      rw [← Ny525.out] at ho
      replace HO_5 := Aside0.mk (Kd.R_over' (uR HO_5.out) (Kd.R_typed (uR HO_4.out)) (by decide) hg)
      replace HB := Aside0.mk (hb)
      replace HR523 := Aside0.mk ((show Kd.C Kd.string w21 A20 y520.length y520 from by rw [Ny520.out, KA20.out]; exact Kd.C_drop (m := 1) (c := co18) ((Kd.R_reads' (Kd.R_over' (uR HO518.out) (Kd.R_typed (uR HO_4.out)) (by decide) hg)).2.2) KL20.out ((Kd.R_reads' (Kd.R_over' (uR HO518.out) (Kd.R_typed (uR HO_4.out)) (by decide) hg)).2.1)))
      replace HO518 := Aside0.mk (Kd.R_over' (uR HO518.out) (Kd.R_typed (uR HO_4.out)) (by decide) hg)
      have HO527 := Aside0.mk (ho)
      clear HO_4
      clear ho hb hg hat
      refine hK.out _ _ ?_
      clear hK K
      refine norm_ (a' := ?_) ?_ ?_
      rotate_left
      ·
       show Act.put _ (some 35) _ = _
       simp only [Act.put, List.setIfInBounds_toArray, List.set_cons_zero, List.set_cons_succ, i64_w, i32_w]
       rfl
      refine p1 10 (some 4) ?_
      refine done_ (done_of HT_.out (by kernel_rfl)) ?_
      try go_wp2
      go_roundg k1
      case measure => have := HK1.out; omega
      case rel => exact ⟨(y525), (wrap64 (x6_1 + 1)), rs_, H', ⟨by have := HK1.out; omega⟩, ⟨uR HO527.out⟩, ⟨by exact uR <| Kd.R_mono HO_5.out (fun _ hk => trivial)⟩, ⟨uW HB.out⟩⟩
    ·
     rw [if_neg c5] at H
     have c5b0 : decide (x6_1 < (t508.length : Int)) = false := decide_eq_false c5
     clear c5
     obtain ⟨⟨t511, t512⟩, A22, H⟩ := bs H
     try dsimp only at H
     simp only [Option.some.injEq, Prod.mk.injEq] at H
     obtain ⟨rfl, rfl⟩ := H
     obtain ⟨Ao23, co23, eo23⟩ := Kd.R_slice HO_5.out
     subst eo23
     obtain ⟨Ao24, co24, eo24⟩ := Kd.R_slice HO_4.out
     subst eo24
     go_wp2_with (first | (refine gL (some 37) rfl Tryz.func94 #[.slice Ao24 x4_1.length co24] ?_; (with_reducible refine (r03_Canon.calls k1 _ _ x4_1 t511 t512 _ ?side1 ?side2 A22.out).mono ?_); (case side1 => exact uC <| (Kd.R_reads' HO_4.out).2.2); (case side2 => exact (Kd.R_reads' HO_4.out).2.1); rintro e w25 ⟨v513, rfl, ho0, hb⟩; refine ⟨_, rfl, ?_⟩; replace HO_5 := cR HO_5 hb; have HO514 := Aside0.mk (Kd.R_lower (Kd.R_new' ho0 (Kd.R_lt (uR HO_4.out))) (below_size (uW HB.out))); replace HO_4 := Aside0.mk (Kd.R_elder' (uR HO_4.out) (Kd.R_base ho0) hb); replace HB := cW HB hb; (try clear hb); (try clear ho0)))
     go_ret2
     exact ⟨_, re_, by exact uR <| Kd.R_mono HO514.out (fun _ hk => trivial), uW HB.out⟩
def r03_Text.l0 : Nat → List (S113) → List ByteArray → Int → Option (ByteArray)
 | 0, _, _, _ => none
 | k + 1, x0, x3, x4 => if x4 < (x0.length : Int) then (if 0 ≤ x4 then (if ((rd_T113 x0 x4).f0).size + 1 ≤ 9223372036854775807 then (if (((rd_T113 x0 x4).f0) ++ (⟨#[61]⟩ : ByteArray)).size + ((rd_T113 x0 x4).f1).size ≤ 9223372036854775807 then (if x3.length < 8796093022208 then (r03_Text.l0 k x0 (x3 ++ [(((rd_T113 x0 x4).f0) ++ (⟨#[61]⟩ : ByteArray)) ++ ((rd_T113 x0 x4).f1)]) (wrap64 (x4 + 1))) else (none)) else (none)) else (none)) else (none)) else ((r02_Join.f k (⟨#[44]⟩ : ByteArray) x3).bind fun t533 => (some t533))
def r03_Text.f (k : Nat) (l0 : List (S113)) : Option (ByteArray) := r03_Text.l0 k l0 ([] : List ByteArray) 0
theorem r03_Text.mono_l : ∀ k, (∀ y0 y1 y2, LeC (r03_Text.l0 k y0 y1 y2) (r03_Text.l0 (k + 1) y0 y1 y2))
 | 0 => fun _ _ _ => ⟨fun r h => by simp [r03_Text.l0] at h⟩
 | k + 1 => by have ih0 := r03_Text.mono_l k; exact fun _ _ _ => by unfold r03_Text.l0; exact lm
theorem r03_Text.mono : ∀ a0 k, LeO (r03_Text.f k a0) (r03_Text.f (k + 1) a0) := by
 intro a0 k
 have ih0 := r03_Text.mono_l k
 unfold r03_Text.f
 exact lo
instance r03_Text.mI {a0 k} : LeC (r03_Text.f k a0) (r03_Text.f (k + 1) a0) := ⟨r03_Text.mono _ _⟩
def r03_Text.T5 : Bool × List (List Nat × List Nat) := (true, [([], []), ([], []), ([], []), ([1, 2], [1, 2]), ([3], [3]), ([4], [4]), ([5], [5]), ([], []), ([], []), ([7, 8], [7, 8]), ([9], [9]), ([10], [10]), ([6, 11], [6, 11]), ([12], [12]), ([0, 13], [0, 13]), ([14, 14, 0, 1, 2, 3, 4, 5, 6, 7, 8, 9, 10, 11, 12, 13, 14], [0, 14])])
def r03_Text.B5 : List Nat := [0, 0, 0, 6, 14, 30, 62, 0, 0, 384, 896, 1920, 4094, 8190, 16383, 32767]
theorem r03_Text.tab5 : rtab .any (opsOf Tryz.f76 5) = r03_Text.T5 := by kernel_rfl
theorem r03_Text.bits5 : waitsOk r03_Text.T5.2 r03_Text.B5 = true := by kernel_rfl
theorem r03_Text.calls (k : Nat) (A0 : Option Addr) (c0 : Nat) (l0 : List (S113)) (r : ByteArray) (w : World) (hr0 : Kd.C k113 w A0 l0.length l0) (hc0 : l0.length ≤ c0) (h : r03_Text.f k l0 = some r) :
 Calls Tryz.prog 76 #[.slice A0 l0.length c0] w fun e w' => e = .returned (.string r) ∧ Below w.heap.size w w' := by
 have HR0 := Aside0.mk hr0
 have HC0 := Aside0.mk hc0
 clear hr0 hc0
 have HB := Aside0.mk (Below.refl w.heap.size w)
 have H : (r03_Text.l0 k l0 ([] : List ByteArray) 0) = some r := h
 clear h
 have H' := Aside0.mk H
 clear H
 go_enter Tryz.func76, Tryz.ntmps76
 go_wp2
 go_loopg [3, 4] k (fun kq v3 v4 w' => ∃ (x3_1 : List ByteArray) (x4_1 : Int), v4 = .int .i64 x4_1 ∧ Aside0 (r03_Text.l0 kq l0 x3_1 x4_1 = some r) ∧ Aside0 (kq ≤ k) ∧ Aside0 (Kd.R Kd.string 9 w' w.heap.size (fun _ => True) v3 x3_1) ∧ Aside0 (Below w.heap.size w w'))
 case atStart => exact ⟨(([] : List ByteArray)), (0), rs_, H', ⟨Nat.le_refl _⟩, ⟨nl_⟩, ⟨uW HB.out⟩⟩
 case round =>
  clear H'
  obtain ⟨x3_1, x4_1, rfl, HA, HK1, HO_3, HB⟩ := hrel
  cases gk with
  | zero => exact absurd HA.out (by simp [r03_Text.l0])
  | succ k1 =>
   have H := HA.out
   clear HA
   simp only [r03_Text.l0] at H
   by_cases c2 : x4_1 < (l0.length : Int)
   ·
    rw [if_pos c2] at H
    have c2b0 : decide (x4_1 < (l0.length : Int)) = true := decide_eq_true c2
    clear c2
    obtain ⟨c3b0, H⟩ := gdd H
    obtain ⟨c4, H⟩ := gd H
    have c4b0 := eq_true c4
    have c4b1 : decide (((rd_T113 l0 x4_1).f0).size + 1 ≤ 9223372036854775807) = true := decide_eq_true c4
    try have c4b2 : (9223372036854775807 < ((rd_T113 l0 x4_1).f0).size + 1) = False := eq_false (Nat.not_lt.2 c4)
    obtain ⟨c5, H⟩ := gd H
    have c5b0 := eq_true c5
    have c5b1 : decide ((((rd_T113 l0 x4_1).f0) ++ (⟨#[61]⟩ : ByteArray)).size + ((rd_T113 l0 x4_1).f1).size ≤ 9223372036854775807) = true := decide_eq_true c5
    try have c5b2 : (9223372036854775807 < (((rd_T113 l0 x4_1).f0) ++ (⟨#[61]⟩ : ByteArray)).size + ((rd_T113 l0 x4_1).f1).size) = False := eq_false (Nat.not_lt.2 c5)
    try have c5b8 := c5b2
    try simp only [ByteArray.size_append] at c5b8
    try have c5b9 := c5b2
    try simp only [ByteArray.size_append, show (⟨#[61]⟩ : ByteArray).size = 1 from rfl] at c5b9
    obtain ⟨c6, H⟩ := gd H
    have LMc6 := Aside0.mk c6
    clear c6
    obtain ⟨y530, hy530⟩ : ∃ y_ : List ByteArray, y_ = (x3_1 ++ [(((rd_T113 l0 x4_1).f0) ++ (⟨#[61]⟩ : ByteArray)) ++ ((rd_T113 l0 x4_1).f1)]) := ⟨_, rfl⟩
    replace H : (r03_Text.l0 k1 l0 y530 (wrap64 (x4_1 + 1))) = some r := by first | (rw [hy530]; with_reducible exact H) | (have H2_ := (Option.bind_some _ _).symm.trans H; rw [hy530]; with_reducible exact H2_) | (have H2_ := (Option.bind_some _ _).symm.trans H; with_reducible exact H2_) | with_reducible exact H | (rw [hy530]; exact H) | exact H
    have Ny530 := Aside0.mk hy530
    clear hy530
    have H' := Aside0.mk H
    clear H
    try go_wp2
    replace HO_3 := Aside0.mk (Kd.R_drew HO_3.out)
    replace HB := Aside0.mk (below_drew1 HB.out)
    have p528 : 0 ≤ (x4_1 : Int) := od
    have q528 : x4_1 < (l0.length : Int) := od
    obtain ⟨ad528, e528, hx528_0, hx528_1⟩ := at_T113 HR0.out x4_1 p528 q528
    have hw528_1 := hx528_1
    have hw528_0 := hx528_0
    cases e528
    replace hx528_0 := kc HB hx528_0
    replace hx528_1 := kc HB hx528_1
    replace p528 := eq_true p528
    replace q528 := eq_true q528
    have p529 : 0 ≤ (x4_1 : Int) := od
    have q529 : x4_1 < (l0.length : Int) := od
    obtain ⟨ad529, e529, hx529_0, hx529_1⟩ := at_T113 HR0.out x4_1 p529 q529
    have hw529_1 := hx529_1
    have hw529_0 := hx529_0
    obtain rfl : ad528 = ad529 := (by injection e529)
    replace hx529_0 := kc HB hx529_0
    replace hx529_1 := kc HB hx529_1
    replace p529 := eq_true p529
    replace q529 := eq_true q529
    refine start_ (n := 16) (S := fun w' => w'.cell? (ad528.add ((x4_1).toNat * 2)) = some (.string ((rd_T113 l0 x4_1).f0)) ∧ w'.cell? ⟨(ad528.add ((x4_1).toNat * 2)).block, (ad528.add ((x4_1).toNat * 2)).off + 1, none⟩ = some (.string ((rd_T113 l0 x4_1).f1)) ∧ w'.cell? (ad528.add ((x4_1).toNat * 2)) = some (.string ((rd_T113 l0 x4_1).f0)) ∧ w'.cell? ⟨(ad528.add ((x4_1).toNat * 2)).block, (ad528.add ((x4_1).toNat * 2)).off + 1, none⟩ = some (.string ((rd_T113 l0 x4_1).f1))) (ds := []) _ (by kernel_rfl) rfl rfl ⟨(kc HB hw528_0), (kc HB hw528_1), (kc HB hw529_0), (kc HB hw529_1)⟩ (fun hHeld => ?_); refine with_tabW r03_Text.tab5 r03_Text.bits5 (fun HT_ HW_ => ?_)
    generalize wr.drew = w7 at HO_3 HB hx528_0 hx528_1 hx529_0 hx529_1 hHeld ⊢
    refine p1 0 (some 11) ?_
    refine p1 1 (some 12) ?_
    refine p1 2 (some 13) ?_
    refine p1 3 (some 14) ?_
    refine p1 4 (some 15) ?_
    refine p1 7 (some 18) ?_
    refine p1 8 (some 19) ?_
    refine p1 9 (some 20) ?_
    refine p1 10 (some 21) ?_
    refine t1 5 (some 16) rfl rfl hHeld (Or.inl ⟨by rfl, by rintro w' ⟨s0, s1, s2, s3⟩; go_simp; with_reducible rfl⟩) ?_
    refine p1 6 (some 17) ?_
    refine t1 11 (some 22) rfl rfl hHeld (Or.inl ⟨by rfl, by rintro w' ⟨s0, s1, s2, s3⟩; go_simp; with_reducible rfl⟩) ?_
    refine p1 12 (some 23) ?_
    refine o1 13 (some 24) rfl rfl (fun K hK => ?_)
    refine value_ (w1 := ?_) (v := ?_) (by rfl) rfl ?_ ?_
    rotate_left 2
    ·
     go_simp
     constructor
     ·
      rfl
     ·
      rfl
    refine hK.out _ _ ⟨(World.cell?_alloc_lt _ _ _ (World.block_lt_of_cell? _ _ ((kc HB hw528_0)))).trans ((kc HB hw528_0)), (World.cell?_alloc_lt _ _ _ (World.block_lt_of_cell? _ _ ((kc HB hw528_1)))).trans ((kc HB hw528_1)), (World.cell?_alloc_lt _ _ _ (World.block_lt_of_cell? _ _ ((kc HB hw529_0)))).trans ((kc HB hw529_0)), (World.cell?_alloc_lt _ _ _ (World.block_lt_of_cell? _ _ ((kc HB hw529_1)))).trans ((kc HB hw529_1))⟩ (fun hHeld => ?_)
    clear hK K
    refine norm_ (a' := ?_) ?_ ?_
    rotate_left
    ·
     show Act.put _ (some 24) _ = _
     simp only [Act.put, List.setIfInBounds_toArray, List.set_cons_zero, List.set_cons_succ, i64_w, i32_w]
     rfl
    refine o1 14 (some 25) rfl rfl (fun K hK => ?_)
    refine Kd.R_append_step Kd.string (w0 := w) w.heap.size (by rfl) (.tmp 11) (.tmp 24) 56 9 (.string ⟨#[]⟩) 16 rfl Tryz.underlying56 info9 rfl (by decide) (by omega) u3 x3_1 ((((rd_T113 l0 x4_1).f0) ++ (⟨#[61]⟩ : ByteArray)) ++ ((rd_T113 l0 x4_1).f1)) [.string ((((rd_T113 l0 x4_1).f0) ++ (⟨#[61]⟩ : ByteArray)) ++ ((rd_T113 l0 x4_1).f1))] (fun _ => True) (fun _ => False) rfl rfl ?aP (fun _ hk => hk.elim) ?aF ?aO ?aB ?aS ?aL ?_
    (case aP => exact rfl)
    (case aB => exact (uW HB.out))
    (case aF => exact (fun _ _ => trivial))
    (case aO => exact (uR HO_3.out))
    (case aS => exact (below_size (uW HB.out)))
    (case aL => have := LMc6.out; omega)
    intro v531 w8 ho hb hg hat
    rw [← Ny530.out] at ho
    replace HB := Aside0.mk (hb)
    have HO532 := Aside0.mk (ho)
    clear HO_3
    clear ho hb hg hat
    refine hK.out _ _ ⟨(kc HB hw528_0), (kc HB hw528_1), (kc HB hw529_0), (kc HB hw529_1)⟩ (fun hHeld => ?_)
    clear hK K
    refine norm_ (a' := ?_) ?_ ?_
    rotate_left
    ·
     show Act.put _ (some 25) _ = _
     simp only [Act.put, List.setIfInBounds_toArray, List.set_cons_zero, List.set_cons_succ, i64_w, i32_w]
     rfl
    refine p1 15 (some 3) ?_
    refine done_ (done_of HT_.out (by kernel_rfl)) ?_
    try go_wp2
    go_roundg k1
    case measure => have := HK1.out; omega
    case rel => exact ⟨(y530), (wrap64 (x4_1 + 1)), rs_, H', ⟨by have := HK1.out; omega⟩, ⟨uR HO532.out⟩, ⟨uW HB.out⟩⟩
   ·
    rw [if_neg c2] at H
    have c2b0 : decide (x4_1 < (l0.length : Int)) = false := decide_eq_false c2
    clear c2
    obtain ⟨t533, A9, H⟩ := bs H
    try dsimp only at H
    obtain rfl := Option.some.inj H
    obtain ⟨Ao10, co10, eo10⟩ := Kd.R_slice HO_3.out
    subst eo10
    go_wp2_with (first | (refine gL (some 27) rfl Tryz.func66 #[.string (⟨#[44]⟩ : ByteArray), .slice Ao10 x3_1.length co10] ?_; (with_reducible refine (r02_Join.calls k1 (⟨#[44]⟩ : ByteArray) _ _ x3_1 t533 _ ?side1 ?side2 A9.out).mono ?_); (case side1 => exact uC <| (Kd.R_reads' HO_3.out).2.2); (case side2 => exact (Kd.R_reads' HO_3.out).2.1); rintro e w' ⟨rfl, ⟨nd, rfl⟩⟩; refine ⟨_, rfl, ?_⟩))
    go_ret
    exact ⟨re_, uW HB.out⟩
def r08_group.f (k : Nat) (a0 : ByteArray) : Option (Int) := (r03_Parse.f k a0).bind fun bt534 => (if bt534.2 = 0 then ((r03_Text.f k bt534.1).bind fun t538 => (if t538.toList = a0.toList then (some 0) else (some 2))) else (some bt534.2))
theorem r08_group.mono : ∀ a0 k, LeO (r08_group.f k a0) (r08_group.f (k + 1) a0) := by
 intro a0 k
 unfold r08_group.f
 exact lo
instance r08_group.mI {a0 k} : LeC (r08_group.f k a0) (r08_group.f (k + 1) a0) := ⟨r08_group.mono _ _⟩
theorem r08_group.calls (k : Nat) (a0 : ByteArray) (r : Int) (w : World) (h : r08_group.f k a0 = some r) :
 Calls Tryz.prog 59 #[.string a0] w fun e w' => e = .returned (.int .i64 r) ∧ Below w.heap.size w w' := by
 have HB := Aside0.mk (Below.refl w.heap.size w)
 have H : ((r03_Parse.f k a0).bind fun bt534 => (if bt534.2 = 0 then ((r03_Text.f k bt534.1).bind fun t538 => (if t538.toList = a0.toList then (some 0) else (some 2))) else (some bt534.2))) = some r := h
 clear h
 obtain ⟨⟨t534, t535⟩, A2, H⟩ := bs H
 try dsimp only at H
 by_cases c3 : t535 = 0
 ·
  rw [if_pos c3] at H
  have c3b0 : (t535 == 0) = true := beq_iff_eq.mpr c3
  have c3b1 : (t535 != 0) = false := bne_eq_false_iff_eq.mpr c3
  clear c3
  obtain ⟨t538, A4, H⟩ := bs H
  try dsimp only at H
  by_cases c5 : t538.toList = a0.toList
  ·
   rw [if_pos c5] at H
   have c5b0 : (t538.toList == a0.toList) = true := beq_iff_eq.mpr c5
   have c5b1 : (t538.toList != a0.toList) = false := bne_eq_false_iff_eq.mpr c5
   clear c5
   obtain rfl := Option.some.inj H
   go_enter Tryz.func59, Tryz.ntmps59
   go_wp2_with (first | (refine gL (some 7) rfl Tryz.func75 #[.string a0] ?_; (with_reducible refine (r03_Parse.calls k a0 t534 t535 _ A2.out).mono ?_); rintro e w6 ⟨v536, rfl, ho0, hb⟩; refine ⟨_, rfl, ?_⟩; have HO537 := Aside0.mk (Kd.R_lower ho0 (below_size (uW HB.out))); replace HB := cW HB hb; (try clear hb); (try clear ho0); obtain ⟨Ao7, co7, eo7⟩ := Kd.R_slice HO537.out; subst eo7) | (refine gL (some 14) rfl Tryz.func76 #[.slice Ao7 t534.length co7] ?_; (with_reducible refine (r03_Text.calls k _ _ t534 t538 _ ?side1 ?side2 A4.out).mono ?_); (case side1 => exact uC <| (Kd.R_reads' HO537.out).2.2); (case side2 => exact (Kd.R_reads' HO537.out).2.1); rintro e w8 ⟨rfl, hb⟩; refine ⟨_, rfl, ?_⟩; replace HO537 := cR HO537 hb; replace HB := cW HB hb; (try clear hb)))
   go_ret
   exact ⟨re_, uW HB.out⟩
  ·
   rw [if_neg c5] at H
   have c5b0 : (t538.toList == a0.toList) = false := beq_eq_false_iff_ne.mpr c5
   have c5b1 : (t538.toList != a0.toList) = true := bne_iff_ne.mpr c5
   obtain rfl := Option.some.inj H
   go_enter Tryz.func59, Tryz.ntmps59
   go_wp2_with (first | (refine gL (some 7) rfl Tryz.func75 #[.string a0] ?_; (with_reducible refine (r03_Parse.calls k a0 t534 t535 _ A2.out).mono ?_); rintro e w9 ⟨v536, rfl, ho0, hb⟩; refine ⟨_, rfl, ?_⟩; have HO537 := Aside0.mk (Kd.R_lower ho0 (below_size (uW HB.out))); replace HB := cW HB hb; (try clear hb); (try clear ho0); obtain ⟨Ao10, co10, eo10⟩ := Kd.R_slice HO537.out; subst eo10) | (refine gL (some 14) rfl Tryz.func76 #[.slice Ao10 t534.length co10] ?_; (with_reducible refine (r03_Text.calls k _ _ t534 t538 _ ?side1 ?side2 A4.out).mono ?_); (case side1 => exact uC <| (Kd.R_reads' HO537.out).2.2); (case side2 => exact (Kd.R_reads' HO537.out).2.1); rintro e w11 ⟨rfl, hb⟩; refine ⟨_, rfl, ?_⟩; replace HO537 := cR HO537 hb; replace HB := cW HB hb; (try clear hb)))
   go_ret
   exact ⟨re_, uW HB.out⟩
 ·
  rw [if_neg c3] at H
  have c3b0 : (t535 == 0) = false := beq_eq_false_iff_ne.mpr c3
  have c3b1 : (t535 != 0) = true := bne_iff_ne.mpr c3
  obtain rfl := Option.some.inj H
  go_enter Tryz.func59, Tryz.ntmps59
  go_wp2_with (first | (refine gL (some 7) rfl Tryz.func75 #[.string a0] ?_; (with_reducible refine (r03_Parse.calls k a0 t534 t535 _ A2.out).mono ?_); rintro e w12 ⟨v536, rfl, ho0, hb⟩; refine ⟨_, rfl, ?_⟩; have HO537 := Aside0.mk (Kd.R_lower ho0 (below_size (uW HB.out))); replace HB := cW HB hb; (try clear hb); (try clear ho0)))
  go_ret
  exact ⟨re_, uW HB.out⟩
def r08_Before.f (a0_0 : Int) (a0_1 : ByteArray) (a0_2 : Int) (a0_3 : Bool) (a1_0 : Int) (a1_1 : ByteArray) (a1_2 : Int) (a1_3 : Bool) : Option (Bool) := if a0_0 < a1_0 then (some true) else (if a0_0 = a1_0 then (some (Op.bytesLess a0_1.toList a1_1.toList)) else (some false))
theorem r08_Before.calls (a0_0 : Int) (a0_1 : ByteArray) (a0_2 : Int) (a0_3 : Bool) (a1_0 : Int) (a1_1 : ByteArray) (a1_2 : Int) (a1_3 : Bool) (r : Bool) (w : World) (h : r08_Before.f a0_0 a0_1 a0_2 a0_3 a1_0 a1_1 a1_2 a1_3 = some r) :
 Calls Tryz.prog 77 #[.agg #[.int .i64 a0_0, .string a0_1, .int .i64 a0_2, .bool a0_3], .agg #[.int .i64 a1_0, .string a1_1, .int .i64 a1_2, .bool a1_3]] w fun e w' => e = .returned (.bool r) ∧ Below w.heap.size w w' := by
 have hu60 := Tryz.underlying60
 have HB := Aside0.mk (Below.refl w.heap.size w)
 have H : (if a0_0 < a1_0 then (some true) else (if a0_0 = a1_0 then (some (Op.bytesLess a0_1.toList a1_1.toList)) else (some false))) = some r := h
 clear h
 by_cases c3 : a0_0 < a1_0
 ·
  rw [if_pos c3] at H
  have c3b0 : decide (a0_0 < a1_0) = true := decide_eq_true c3
  clear c3
  obtain rfl := Option.some.inj H
  go_enter Tryz.func77, Tryz.ntmps77
  go_wp2_with (first | ((with_reducible refine gate_dst (N := 2) rfl ?_); refine bx (N := 2) #[.int .i64 a0_0, .string a0_1, .int .i64 a0_2, .bool a0_3] 60 ?_; intro gb539 hg w4 hbox hb; have BK539 := Aside0.mk (hbox); have GW539 := gw hg (uW HB.out); have GE539 := GW539; replace HB := cW HB hb; clear hb hbox hg) | ((with_reducible refine gate_dst (N := 3) rfl ?_); refine bx (N := 3) #[.int .i64 a1_0, .string a1_1, .int .i64 a1_2, .bool a1_3] 60 ?_; intro gb540 hg w5 hbox hb; have BK540 := Aside0.mk (hbox); have GW540 := gw hg bl; have GE540 := GW540; replace HB := Aside0.mk (below_step bl hb); have NB539_540 := nl BK539 hg; have NB540_539 := nr BK539 hg; replace BK539 := cB BK539 hb; clear hb hbox hg; have hnb6 := NB539_540.out; have hnc6 := NB540_539.out; obtain ⟨hcz7_0, hcz7_1, hcz7_2, hcz7_3, hfz7_0, hfz7_1, hfz7_2, hfz7_3⟩ := z4 BK539; obtain ⟨hcz8_0, hcz8_1, hcz8_2, hcz8_3, hfz8_0, hfz8_1, hfz8_2, hfz8_3⟩ := z4 BK540))
  go_ret
  exact ⟨re_, bl⟩
 ·
  rw [if_neg c3] at H
  have c3b0 : decide (a0_0 < a1_0) = false := decide_eq_false c3
  clear c3
  by_cases c9 : a0_0 = a1_0
  ·
   rw [if_pos c9] at H
   have c9b0 : (a0_0 == a1_0) = true := beq_iff_eq.mpr c9
   have c9b1 : (a0_0 != a1_0) = false := bne_eq_false_iff_eq.mpr c9
   clear c9
   obtain rfl := Option.some.inj H
   go_enter Tryz.func77, Tryz.ntmps77
   go_wp2_with (first | ((with_reducible refine gate_dst (N := 2) rfl ?_); refine bx (N := 2) #[.int .i64 a0_0, .string a0_1, .int .i64 a0_2, .bool a0_3] 60 ?_; intro gb539 hg w10 hbox hb; have BK539 := Aside0.mk (hbox); have GW539 := gw hg (uW HB.out); have GE539 := GW539; replace HB := cW HB hb; clear hb hbox hg) | ((with_reducible refine gate_dst (N := 3) rfl ?_); refine bx (N := 3) #[.int .i64 a1_0, .string a1_1, .int .i64 a1_2, .bool a1_3] 60 ?_; intro gb540 hg w11 hbox hb; have BK540 := Aside0.mk (hbox); have GW540 := gw hg bl; have GE540 := GW540; replace HB := Aside0.mk (below_step bl hb); have NB539_540 := nl BK539 hg; have NB540_539 := nr BK539 hg; replace BK539 := cB BK539 hb; clear hb hbox hg; have hnb12 := NB539_540.out; have hnc12 := NB540_539.out; obtain ⟨hcz13_0, hcz13_1, hcz13_2, hcz13_3, hfz13_0, hfz13_1, hfz13_2, hfz13_3⟩ := z4 BK539; obtain ⟨hcz14_0, hcz14_1, hcz14_2, hcz14_3, hfz14_0, hfz14_1, hfz14_2, hfz14_3⟩ := z4 BK540))
   go_ret
   exact ⟨re_, bl⟩
  ·
   rw [if_neg c9] at H
   have c9b0 : (a0_0 == a1_0) = false := beq_eq_false_iff_ne.mpr c9
   have c9b1 : (a0_0 != a1_0) = true := bne_iff_ne.mpr c9
   obtain rfl := Option.some.inj H
   go_enter Tryz.func77, Tryz.ntmps77
   go_wp2_with (first | ((with_reducible refine gate_dst (N := 2) rfl ?_); refine bx (N := 2) #[.int .i64 a0_0, .string a0_1, .int .i64 a0_2, .bool a0_3] 60 ?_; intro gb539 hg w15 hbox hb; have BK539 := Aside0.mk (hbox); have GW539 := gw hg (uW HB.out); have GE539 := GW539; replace HB := cW HB hb; clear hb hbox hg) | ((with_reducible refine gate_dst (N := 3) rfl ?_); refine bx (N := 3) #[.int .i64 a1_0, .string a1_1, .int .i64 a1_2, .bool a1_3] 60 ?_; intro gb540 hg w16 hbox hb; have BK540 := Aside0.mk (hbox); have GW540 := gw hg bl; have GE540 := GW540; replace HB := Aside0.mk (below_step bl hb); have NB539_540 := nl BK539 hg; have NB540_539 := nr BK539 hg; replace BK539 := cB BK539 hb; clear hb hbox hg; have hnb17 := NB539_540.out; have hnc17 := NB540_539.out; obtain ⟨hcz18_0, hcz18_1, hcz18_2, hcz18_3, hfz18_0, hfz18_1, hfz18_2, hfz18_3⟩ := z4 BK539; obtain ⟨hcz19_0, hcz19_1, hcz19_2, hcz19_3, hfz19_0, hfz19_1, hfz19_2, hfz19_3⟩ := z4 BK540))
   go_ret
   exact ⟨re_, bl⟩
attribute [local go_sem high] eqA58
def r08_rise.l0 : Nat → List (S60) → Int → Option (Bool)
 | 0, _, _ => none
 | k + 1, x0, x3 => if x3 < (x0.length : Int) then (if 0 ≤ (wrap64 (x3 - 1)) then (if (wrap64 (x3 - 1)) < (x0.length : Int) then (if 0 ≤ x3 then ((r08_Before.f ((rd_T60 x0 (wrap64 (x3 - 1))).f0) ((rd_T60 x0 (wrap64 (x3 - 1))).f1) ((rd_T60 x0 (wrap64 (x3 - 1))).f2.f0) ((rd_T60 x0 (wrap64 (x3 - 1))).f2.f1) ((rd_T60 x0 x3).f0) ((rd_T60 x0 x3).f1) ((rd_T60 x0 x3).f2.f0) ((rd_T60 x0 x3).f2.f1)).bind fun t543 => (if t543 = true then (r08_rise.l0 k x0 (wrap64 (x3 + 1))) else (some false))) else (none)) else (none)) else (none)) else (some true)
def r08_rise.f (k : Nat) (l0 : List (S60)) : Option (Bool) := r08_rise.l0 k l0 1
theorem r08_rise.mono_l : ∀ k, (∀ y0 y1, LeC (r08_rise.l0 k y0 y1) (r08_rise.l0 (k + 1) y0 y1))
 | 0 => fun _ _ => ⟨fun r h => by simp [r08_rise.l0] at h⟩
 | k + 1 => by have ih0 := r08_rise.mono_l k; exact fun _ _ => by unfold r08_rise.l0; exact lm
theorem r08_rise.mono : ∀ a0 k, LeO (r08_rise.f k a0) (r08_rise.f (k + 1) a0) := by
 intro a0 k
 have ih0 := r08_rise.mono_l k
 unfold r08_rise.f
 exact lo
instance r08_rise.mI {a0 k} : LeC (r08_rise.f k a0) (r08_rise.f (k + 1) a0) := ⟨r08_rise.mono _ _⟩
def r08_rise.T4 : Bool × List (List Nat × List Nat) := (true, [([], []), ([], []), ([1], [1]), ([0, 2], [0, 2]), ([3], [3]), ([], []), ([], []), ([5, 6], [5, 6]), ([7], [7]), ([4, 8], [4, 8]), ([9], [9])])
def r08_rise.B4 : List Nat := [0, 0, 2, 7, 15, 0, 0, 96, 224, 511, 1023]
theorem r08_rise.tab4 : rtab .any (opsOf Tryz.f60 4) = r08_rise.T4 := by kernel_rfl
theorem r08_rise.bits4 : waitsOk r08_rise.T4.2 r08_rise.B4 = true := by kernel_rfl
theorem r08_rise.calls (k : Nat) (A0 : Option Addr) (c0 : Nat) (l0 : List (S60)) (r : Bool) (w : World) (hr0 : Kd.C k60 w A0 l0.length l0) (hc0 : l0.length ≤ c0) (h : r08_rise.f k l0 = some r) :
 Calls Tryz.prog 60 #[.slice A0 l0.length c0] w fun e w' => e = .returned (.bool r) ∧ Below w.heap.size w w' := by
 have hu60 := Tryz.underlying60
 have HR0 := Aside0.mk hr0
 have HC0 := Aside0.mk hc0
 clear hr0 hc0
 have HB := Aside0.mk (Below.refl w.heap.size w)
 have H : (r08_rise.l0 k l0 1) = some r := h
 clear h
 have H' := Aside0.mk H
 clear H
 go_enter Tryz.func60, Tryz.ntmps60
 go_wp2
 go_loopg [3] k (fun kq v3 w' => ∃ (x3_1 : Int), v3 = .int .i64 x3_1 ∧ Aside0 (r08_rise.l0 kq l0 x3_1 = some r) ∧ Aside0 (kq ≤ k) ∧ Aside0 (Below w.heap.size w w'))
 case atStart => exact ⟨(1), rs_, H', ⟨Nat.le_refl _⟩, ⟨uW HB.out⟩⟩
 case round =>
  clear H'
  obtain ⟨x3_1, rfl, HA, HK1, HB⟩ := hrel
  cases gk with
  | zero => exact absurd HA.out (by simp [r08_rise.l0])
  | succ k1 =>
   have H := HA.out
   clear HA
   simp only [r08_rise.l0] at H
   by_cases c2 : x3_1 < (l0.length : Int)
   ·
    rw [if_pos c2] at H
    have c2b0 : decide (x3_1 < (l0.length : Int)) = true := decide_eq_true c2
    clear c2
    obtain ⟨ji3, hji3⟩ : ∃ j_ : Int, (wrap64 (x3_1 - 1)) = j_ := ⟨_, rfl⟩
    (first | rw [hji3] at H | simp only [hji3] at H)
    have hji3w : (IntKind.i64.wrap (x3_1 - 1)) = ji3 := (i64_w _).trans hji3
    obtain ⟨c4b0, H⟩ := gdd H
    obtain ⟨c5b0, H⟩ := gdd H
    obtain ⟨c6b0, H⟩ := gdd H
    obtain ⟨t543, A7, H⟩ := bs H
    try dsimp only at H
    by_cases c8 : t543 = true
    ·
     subst c8
     rw [if_pos rfl] at H
     have H' := Aside0.mk H
     clear H
     try go_wp2
     replace HB := Aside0.mk (below_drew1 HB.out)
     have p541 : 0 ≤ ((ji3) : Int) := od
     have q541 : (ji3) < (l0.length : Int) := od
     obtain ⟨ad541, e541, hx541_0, hx541_1, hx541_2, hx541_3⟩ := at_T60 HR0.out (ji3) p541 q541
     have hw541_3 := hx541_3
     have hw541_2 := hx541_2
     have hw541_1 := hx541_1
     have hw541_0 := hx541_0
     cases e541
     replace hx541_0 := kc HB hx541_0
     replace hx541_1 := kc HB hx541_1
     replace hx541_2 := kc HB hx541_2
     replace hx541_3 := kc HB hx541_3
     replace p541 := eq_true p541
     replace q541 := eq_true q541
     have p542 : 0 ≤ (x3_1 : Int) := od
     have q542 : x3_1 < (l0.length : Int) := od
     obtain ⟨ad542, e542, hx542_0, hx542_1, hx542_2, hx542_3⟩ := at_T60 HR0.out x3_1 p542 q542
     have hw542_3 := hx542_3
     have hw542_2 := hx542_2
     have hw542_1 := hx542_1
     have hw542_0 := hx542_0
     obtain rfl : ad541 = ad542 := (by injection e542)
     replace hx542_0 := kc HB hx542_0
     replace hx542_1 := kc HB hx542_1
     replace hx542_2 := kc HB hx542_2
     replace hx542_3 := kc HB hx542_3
     replace p542 := eq_true p542
     replace q542 := eq_true q542
     refine start_ (n := 11) (S := fun w' => w'.cell? (ad541.add (((ji3)).toNat * 4)) = some (.int .i64 ((rd_T60 l0 (ji3)).f0)) ∧ w'.cell? ⟨(ad541.add (((ji3)).toNat * 4)).block, (ad541.add (((ji3)).toNat * 4)).off + 1, none⟩ = some (.string ((rd_T60 l0 (ji3)).f1)) ∧ w'.cell? ⟨(ad541.add (((ji3)).toNat * 4)).block, (ad541.add (((ji3)).toNat * 4)).off + 2, none⟩ = some (.int .i64 ((rd_T60 l0 (ji3)).f2.f0)) ∧ w'.cell? ⟨(ad541.add (((ji3)).toNat * 4)).block, (ad541.add (((ji3)).toNat * 4)).off + 3, none⟩ = some (.bool ((rd_T60 l0 (ji3)).f2.f1)) ∧ w'.cell? (ad541.add ((x3_1).toNat * 4)) = some (.int .i64 ((rd_T60 l0 x3_1).f0)) ∧ w'.cell? ⟨(ad541.add ((x3_1).toNat * 4)).block, (ad541.add ((x3_1).toNat * 4)).off + 1, none⟩ = some (.string ((rd_T60 l0 x3_1).f1)) ∧ w'.cell? ⟨(ad541.add ((x3_1).toNat * 4)).block, (ad541.add ((x3_1).toNat * 4)).off + 2, none⟩ = some (.int .i64 ((rd_T60 l0 x3_1).f2.f0)) ∧ w'.cell? ⟨(ad541.add ((x3_1).toNat * 4)).block, (ad541.add ((x3_1).toNat * 4)).off + 3, none⟩ = some (.bool ((rd_T60 l0 x3_1).f2.f1))) (ds := []) _ (by kernel_rfl) rfl rfl ⟨(kc HB hw541_0), (kc HB hw541_1), (kc HB hw541_2), (kc HB hw541_3), (kc HB hw542_0), (kc HB hw542_1), (kc HB hw542_2), (kc HB hw542_3)⟩ (fun hHeld => ?_); refine with_tabW r08_rise.tab4 r08_rise.bits4 (fun HT_ HW_ => ?_)
     generalize wr.drew = w9 at HB hx541_0 hx541_1 hx541_2 hx541_3 hx542_0 hx542_1 hx542_2 hx542_3 hHeld ⊢
     refine p1 0 (some 10) ?_
     refine p1 1 (some 11) ?_
     refine p1 2 (some 12) ?_
     refine p1 3 (some 13) ?_
     refine p1 5 (some 15) ?_
     refine p1 6 (some 16) ?_
     refine p1 7 (some 17) ?_
     refine t1 4 (some 14) rfl rfl hHeld (Or.inl ⟨by rfl, by rintro w' ⟨s0, s1, s2, s3, s4, s5, s6, s7⟩; go_simp; with_reducible rfl⟩) ?_
     refine t1 8 (some 18) rfl rfl hHeld (Or.inl ⟨by rfl, by rintro w' ⟨s0, s1, s2, s3, s4, s5, s6, s7⟩; go_simp; with_reducible rfl⟩) ?_
     refine o1 9 (some 19) rfl rfl (fun K hK => ?_)
     refine goes_ Tryz.func77 (by kernel_rfl) rfl #[.agg #[.int .i64 ((rd_T60 l0 (ji3)).f0), .string ((rd_T60 l0 (ji3)).f1), .int .i64 ((rd_T60 l0 (ji3)).f2.f0), .bool ((rd_T60 l0 (ji3)).f2.f1)], .agg #[.int .i64 ((rd_T60 l0 x3_1).f0), .string ((rd_T60 l0 x3_1).f1), .int .i64 ((rd_T60 l0 x3_1).f2.f0), .bool ((rd_T60 l0 x3_1).f2.f1)]] (by rfl) rfl rfl (by (try simp only [List.map_toArray, List.map_cons, List.map_nil]); first | done | (simp only [hji3]; rfl) | rfl | (simp only [List.length_drop, List.length_take]; rfl)) ?_
     with_reducible refine (r08_Before.calls ((rd_T60 l0 (ji3)).f0) ((rd_T60 l0 (ji3)).f1) ((rd_T60 l0 (ji3)).f2.f0) ((rd_T60 l0 (ji3)).f2.f1) ((rd_T60 l0 x3_1).f0) ((rd_T60 l0 x3_1).f1) ((rd_T60 l0 x3_1).f2.f0) ((rd_T60 l0 x3_1).f2.f1) true _ A7.out).mono ?_
     rintro e w10 ⟨rfl, hb⟩
     refine ⟨_, rfl, ?_⟩
     replace HB := cW HB hb
     (try clear hb)
     refine hK.out _ _ ⟨(kc HB hw541_0), (kc HB hw541_1), (kc HB hw541_2), (kc HB hw541_3), (kc HB hw542_0), (kc HB hw542_1), (kc HB hw542_2), (kc HB hw542_3)⟩ (fun hHeld => ?_)
     clear hK K
     refine norm_ (a' := ?_) ?_ ?_
     rotate_left
     ·
      show Act.put _ (some 19) _ = _
      simp only [Act.put, List.setIfInBounds_toArray, List.set_cons_zero, List.set_cons_succ, i64_w, i32_w]
      rfl
     refine p1 10 (some 20) ?_
     refine done_ (done_of HT_.out (by kernel_rfl)) ?_
     try go_wp2
     go_roundg k1
     case measure => have := HK1.out; omega
     case rel => exact ⟨(wrap64 (x3_1 + 1)), rs_, H', ⟨by have := HK1.out; omega⟩, ⟨uW HB.out⟩⟩
    ·
     replace c8 := Bool.eq_false_iff.mpr c8
     subst c8
     rw [if_neg (show ¬ (false = true) by decide)] at H
     obtain rfl := Option.some.inj H
     try go_wp2
     replace HB := Aside0.mk (below_drew1 HB.out)
     have p541 : 0 ≤ ((ji3) : Int) := od
     have q541 : (ji3) < (l0.length : Int) := od
     obtain ⟨ad541, e541, hx541_0, hx541_1, hx541_2, hx541_3⟩ := at_T60 HR0.out (ji3) p541 q541
     have hw541_3 := hx541_3
     have hw541_2 := hx541_2
     have hw541_1 := hx541_1
     have hw541_0 := hx541_0
     cases e541
     replace hx541_0 := kc HB hx541_0
     replace hx541_1 := kc HB hx541_1
     replace hx541_2 := kc HB hx541_2
     replace hx541_3 := kc HB hx541_3
     replace p541 := eq_true p541
     replace q541 := eq_true q541
     have p542 : 0 ≤ (x3_1 : Int) := od
     have q542 : x3_1 < (l0.length : Int) := od
     obtain ⟨ad542, e542, hx542_0, hx542_1, hx542_2, hx542_3⟩ := at_T60 HR0.out x3_1 p542 q542
     have hw542_3 := hx542_3
     have hw542_2 := hx542_2
     have hw542_1 := hx542_1
     have hw542_0 := hx542_0
     obtain rfl : ad541 = ad542 := (by injection e542)
     replace hx542_0 := kc HB hx542_0
     replace hx542_1 := kc HB hx542_1
     replace hx542_2 := kc HB hx542_2
     replace hx542_3 := kc HB hx542_3
     replace p542 := eq_true p542
     replace q542 := eq_true q542
     refine start_ (n := 11) (S := fun w' => w'.cell? (ad541.add (((ji3)).toNat * 4)) = some (.int .i64 ((rd_T60 l0 (ji3)).f0)) ∧ w'.cell? ⟨(ad541.add (((ji3)).toNat * 4)).block, (ad541.add (((ji3)).toNat * 4)).off + 1, none⟩ = some (.string ((rd_T60 l0 (ji3)).f1)) ∧ w'.cell? ⟨(ad541.add (((ji3)).toNat * 4)).block, (ad541.add (((ji3)).toNat * 4)).off + 2, none⟩ = some (.int .i64 ((rd_T60 l0 (ji3)).f2.f0)) ∧ w'.cell? ⟨(ad541.add (((ji3)).toNat * 4)).block, (ad541.add (((ji3)).toNat * 4)).off + 3, none⟩ = some (.bool ((rd_T60 l0 (ji3)).f2.f1)) ∧ w'.cell? (ad541.add ((x3_1).toNat * 4)) = some (.int .i64 ((rd_T60 l0 x3_1).f0)) ∧ w'.cell? ⟨(ad541.add ((x3_1).toNat * 4)).block, (ad541.add ((x3_1).toNat * 4)).off + 1, none⟩ = some (.string ((rd_T60 l0 x3_1).f1)) ∧ w'.cell? ⟨(ad541.add ((x3_1).toNat * 4)).block, (ad541.add ((x3_1).toNat * 4)).off + 2, none⟩ = some (.int .i64 ((rd_T60 l0 x3_1).f2.f0)) ∧ w'.cell? ⟨(ad541.add ((x3_1).toNat * 4)).block, (ad541.add ((x3_1).toNat * 4)).off + 3, none⟩ = some (.bool ((rd_T60 l0 x3_1).f2.f1))) (ds := []) _ (by kernel_rfl) rfl rfl ⟨(kc HB hw541_0), (kc HB hw541_1), (kc HB hw541_2), (kc HB hw541_3), (kc HB hw542_0), (kc HB hw542_1), (kc HB hw542_2), (kc HB hw542_3)⟩ (fun hHeld => ?_); refine with_tabW r08_rise.tab4 r08_rise.bits4 (fun HT_ HW_ => ?_)
     generalize wr.drew = w11 at HB hx541_0 hx541_1 hx541_2 hx541_3 hx542_0 hx542_1 hx542_2 hx542_3 hHeld ⊢
     refine p1 0 (some 10) ?_
     refine p1 1 (some 11) ?_
     refine p1 2 (some 12) ?_
     refine p1 3 (some 13) ?_
     refine p1 5 (some 15) ?_
     refine p1 6 (some 16) ?_
     refine p1 7 (some 17) ?_
     refine t1 4 (some 14) rfl rfl hHeld (Or.inl ⟨by rfl, by rintro w' ⟨s0, s1, s2, s3, s4, s5, s6, s7⟩; go_simp; with_reducible rfl⟩) ?_
     refine t1 8 (some 18) rfl rfl hHeld (Or.inl ⟨by rfl, by rintro w' ⟨s0, s1, s2, s3, s4, s5, s6, s7⟩; go_simp; with_reducible rfl⟩) ?_
     refine o1 9 (some 19) rfl rfl (fun K hK => ?_)
     refine goes_ Tryz.func77 (by kernel_rfl) rfl #[.agg #[.int .i64 ((rd_T60 l0 (ji3)).f0), .string ((rd_T60 l0 (ji3)).f1), .int .i64 ((rd_T60 l0 (ji3)).f2.f0), .bool ((rd_T60 l0 (ji3)).f2.f1)], .agg #[.int .i64 ((rd_T60 l0 x3_1).f0), .string ((rd_T60 l0 x3_1).f1), .int .i64 ((rd_T60 l0 x3_1).f2.f0), .bool ((rd_T60 l0 x3_1).f2.f1)]] (by rfl) rfl rfl (by (try simp only [List.map_toArray, List.map_cons, List.map_nil]); first | done | (simp only [hji3]; rfl) | rfl | (simp only [List.length_drop, List.length_take]; rfl)) ?_
     with_reducible refine (r08_Before.calls ((rd_T60 l0 (ji3)).f0) ((rd_T60 l0 (ji3)).f1) ((rd_T60 l0 (ji3)).f2.f0) ((rd_T60 l0 (ji3)).f2.f1) ((rd_T60 l0 x3_1).f0) ((rd_T60 l0 x3_1).f1) ((rd_T60 l0 x3_1).f2.f0) ((rd_T60 l0 x3_1).f2.f1) false _ A7.out).mono ?_
     rintro e w12 ⟨rfl, hb⟩
     refine ⟨_, rfl, ?_⟩
     replace HB := cW HB hb
     (try clear hb)
     refine hK.out _ _ ⟨(kc HB hw541_0), (kc HB hw541_1), (kc HB hw541_2), (kc HB hw541_3), (kc HB hw542_0), (kc HB hw542_1), (kc HB hw542_2), (kc HB hw542_3)⟩ (fun hHeld => ?_)
     clear hK K
     refine norm_ (a' := ?_) ?_ ?_
     rotate_left
     ·
      show Act.put _ (some 19) _ = _
      simp only [Act.put, List.setIfInBounds_toArray, List.set_cons_zero, List.set_cons_succ, i64_w, i32_w]
      rfl
     refine p1 10 (some 20) ?_
     refine done_ (done_of HT_.out (by kernel_rfl)) ?_
     try go_wp2
     go_ret
     exact ⟨by first | rfl | (simp [errW_none, errW_some] <;> rfl) | (simp only [← hji3]; first | rfl | (simp [errW_none, errW_some] <;> rfl)) | (simp [*, errW_none, errW_some] <;> rfl), uW HB.out⟩
   ·
    rw [if_neg c2] at H
    have c2b0 : decide (x3_1 < (l0.length : Int)) = false := decide_eq_false c2
    clear c2
    obtain rfl := Option.some.inj H
    go_wp2
    go_ret
    exact ⟨re_, uW HB.out⟩
def r08_Right.l0 : Nat → List (S60) → Int → Option (Bool)
 | 0, _, _ => none
 | k + 1, x0, x3 => if x3 < (x0.length : Int) then (if 0 ≤ x3 then ((r08_group.f k ((rd_T60 x0 x3).f1)).bind fun t545 => (if t545 = 0 then (r08_Right.l0 k x0 (wrap64 (x3 + 1))) else (some false))) else (none)) else ((r08_rise.f k x0).bind fun t546 => (some t546))
def r08_Right.f (k : Nat) (l0 : List (S60)) : Option (Bool) := r08_Right.l0 k l0 0
theorem r08_Right.mono_l : ∀ k, (∀ y0 y1, LeC (r08_Right.l0 k y0 y1) (r08_Right.l0 (k + 1) y0 y1))
 | 0 => fun _ _ => ⟨fun r h => by simp [r08_Right.l0] at h⟩
 | k + 1 => by have ih0 := r08_Right.mono_l k; exact fun _ _ => by unfold r08_Right.l0; exact lm
theorem r08_Right.mono : ∀ a0 k, LeO (r08_Right.f k a0) (r08_Right.f (k + 1) a0) := by
 intro a0 k
 have ih0 := r08_Right.mono_l k
 unfold r08_Right.f
 exact lo
instance r08_Right.mI {a0 k} : LeC (r08_Right.f k a0) (r08_Right.f (k + 1) a0) := ⟨r08_Right.mono _ _⟩
theorem r08_Right.calls (k : Nat) (A0 : Option Addr) (c0 : Nat) (l0 : List (S60)) (r : Bool) (w : World) (hr0 : Kd.C k60 w A0 l0.length l0) (hc0 : l0.length ≤ c0) (h : r08_Right.f k l0 = some r) :
 Calls Tryz.prog 30 #[.slice A0 l0.length c0] w fun e w' => e = .returned (.bool r) ∧ Below w.heap.size w w' := by
 have HR0 := Aside0.mk hr0
 have HC0 := Aside0.mk hc0
 clear hr0 hc0
 have HB := Aside0.mk (Below.refl w.heap.size w)
 have H : (r08_Right.l0 k l0 0) = some r := h
 clear h
 have H' := Aside0.mk H
 clear H
 go_enter Tryz.func30, Tryz.ntmps30
 go_wp2
 go_loopg [3] k (fun kq v3 w' => ∃ (x3_1 : Int), v3 = .int .i64 x3_1 ∧ Aside0 (r08_Right.l0 kq l0 x3_1 = some r) ∧ Aside0 (kq ≤ k) ∧ Aside0 (Below w.heap.size w w'))
 case atStart => exact ⟨(0), rs_, H', ⟨Nat.le_refl _⟩, ⟨uW HB.out⟩⟩
 case round =>
  clear H'
  obtain ⟨x3_1, rfl, HA, HK1, HB⟩ := hrel
  cases gk with
  | zero => exact absurd HA.out (by simp [r08_Right.l0])
  | succ k1 =>
   have H := HA.out
   clear HA
   simp only [r08_Right.l0] at H
   by_cases c2 : x3_1 < (l0.length : Int)
   ·
    rw [if_pos c2] at H
    have c2b0 : decide (x3_1 < (l0.length : Int)) = true := decide_eq_true c2
    clear c2
    obtain ⟨c3b0, H⟩ := gdd H
    obtain ⟨t545, A4, H⟩ := bs H
    try dsimp only at H
    by_cases c5 : t545 = 0
    ·
     rw [if_pos c5] at H
     have c5b0 : (t545 == 0) = true := beq_iff_eq.mpr c5
     have c5b1 : (t545 != 0) = false := bne_eq_false_iff_eq.mpr c5
     clear c5
     have H' := Aside0.mk H
     clear H
     have p544 : 0 ≤ (x3_1 : Int) := od
     have q544 : x3_1 < (l0.length : Int) := od
     obtain ⟨ad544, e544, hx544_0, hx544_1, hx544_2, hx544_3⟩ := at_T60 HR0.out x3_1 p544 q544
     cases e544
     replace hx544_0 := kc HB hx544_0
     replace hx544_1 := kc HB hx544_1
     replace hx544_2 := kc HB hx544_2
     replace hx544_3 := kc HB hx544_3
     replace p544 := eq_true p544
     replace q544 := eq_true q544
     go_wp2_with (first | (refine gL (some 15) rfl Tryz.func59 #[.string ((rd_T60 l0 x3_1).f1)] ?_; (with_reducible refine (r08_group.calls k1 ((rd_T60 l0 x3_1).f1) t545 _ A4.out).mono ?_); rintro e w6 ⟨rfl, hb⟩; refine ⟨_, rfl, ?_⟩; replace HB := cW HB hb; (try clear hb)))
     go_roundg k1
     case measure => have := HK1.out; omega
     case rel => exact ⟨(wrap64 (x3_1 + 1)), rs_, H', ⟨by have := HK1.out; omega⟩, ⟨uW HB.out⟩⟩
    ·
     rw [if_neg c5] at H
     have c5b0 : (t545 == 0) = false := beq_eq_false_iff_ne.mpr c5
     have c5b1 : (t545 != 0) = true := bne_iff_ne.mpr c5
     obtain rfl := Option.some.inj H
     have p544 : 0 ≤ (x3_1 : Int) := od
     have q544 : x3_1 < (l0.length : Int) := od
     obtain ⟨ad544, e544, hx544_0, hx544_1, hx544_2, hx544_3⟩ := at_T60 HR0.out x3_1 p544 q544
     cases e544
     replace hx544_0 := kc HB hx544_0
     replace hx544_1 := kc HB hx544_1
     replace hx544_2 := kc HB hx544_2
     replace hx544_3 := kc HB hx544_3
     replace p544 := eq_true p544
     replace q544 := eq_true q544
     go_wp2_with (first | (refine gL (some 15) rfl Tryz.func59 #[.string ((rd_T60 l0 x3_1).f1)] ?_; (with_reducible refine (r08_group.calls k1 ((rd_T60 l0 x3_1).f1) t545 _ A4.out).mono ?_); rintro e w7 ⟨rfl, hb⟩; refine ⟨_, rfl, ?_⟩; replace HB := cW HB hb; (try clear hb)))
     go_ret
     exact ⟨re_, uW HB.out⟩
   ·
    rw [if_neg c2] at H
    have c2b0 : decide (x3_1 < (l0.length : Int)) = false := decide_eq_false c2
    clear c2
    obtain ⟨t546, A8, H⟩ := bs H
    try dsimp only at H
    obtain rfl := Option.some.inj H
    go_wp2_with (first | (refine gL (some 18) rfl Tryz.func60 #[.slice A0 l0.length c0] ?_; (with_reducible refine (r08_rise.calls k1 _ _ l0 t546 _ ?side1 ?side2 A8.out).mono ?_); (case side1 => exact uC <| (Kd.C_below HR0.out HB.out)); (case side2 => exact HC0.out); rintro e w9 ⟨rfl, hb⟩; refine ⟨_, rfl, ?_⟩; replace HB := cW HB hb; (try clear hb)))
    go_ret
    exact ⟨re_, uW HB.out⟩
def r09_Right.l0 : Nat → List (S78) → List (S60) → Int → Option (Bool)
 | 0, _, _, _ => none
 | k + 1, x0, x3, x4 => if x4 < (x0.length : Int) then (if 0 ≤ x4 then (if (rd_T78 x0 x4).f1 = true then (if (!(((rd_T78 x0 x4).f0.f2.f0) == 0) || (((rd_T78 x0 x4).f0.f2.f1))) = true then (some false) else (if x3.length < 3518437208883 then (r09_Right.l0 k x0 (x3 ++ [(⟨(rd_T78 x0 x4).f0.f0, (rd_T78 x0 x4).f0.f1, (⟨(rd_T78 x0 x4).f0.f2.f0, (rd_T78 x0 x4).f0.f2.f1⟩ : S58)⟩ : S60)]) (wrap64 (x4 + 1))) else (none))) else (if x3.length < 3518437208883 then (r09_Right.l0 k x0 (x3 ++ [(⟨(rd_T78 x0 x4).f0.f0, (rd_T78 x0 x4).f0.f1, (⟨(rd_T78 x0 x4).f0.f2.f0, (rd_T78 x0 x4).f0.f2.f1⟩ : S58)⟩ : S60)]) (wrap64 (x4 + 1))) else (none))) else (none)) else ((r08_Right.f k x3).bind fun t557 => (some t557))
def r09_Right.f (k : Nat) (l0 : List (S78)) : Option (Bool) := r09_Right.l0 k l0 ([] : List (S60)) 0
theorem r09_Right.mono_l : ∀ k, (∀ y0 y1 y2, LeC (r09_Right.l0 k y0 y1 y2) (r09_Right.l0 (k + 1) y0 y1 y2))
 | 0 => fun _ _ _ => ⟨fun r h => by simp [r09_Right.l0] at h⟩
 | k + 1 => by have ih0 := r09_Right.mono_l k; exact fun _ _ _ => by unfold r09_Right.l0; exact lm
theorem r09_Right.mono : ∀ a0 k, LeO (r09_Right.f k a0) (r09_Right.f (k + 1) a0) := by
 intro a0 k
 have ih0 := r09_Right.mono_l k
 unfold r09_Right.f
 exact lo
instance r09_Right.mI {a0 k} : LeC (r09_Right.f k a0) (r09_Right.f (k + 1) a0) := ⟨r09_Right.mono _ _⟩
theorem r09_Right.calls (k : Nat) (A0 : Option Addr) (c0 : Nat) (l0 : List (S78)) (r : Bool) (w : World) (hr0 : Kd.C k78 w A0 l0.length l0) (hc0 : l0.length ≤ c0) (h : r09_Right.f k l0 = some r) :
 Calls Tryz.prog 32 #[.slice A0 l0.length c0] w fun e w' => e = .returned (.bool r) ∧ Below w.heap.size w w' := by
 have hu58 := Tryz.underlying58
 have hu60 := Tryz.underlying60
 have HR0 := Aside0.mk hr0
 have HC0 := Aside0.mk hc0
 clear hr0 hc0
 have HB := Aside0.mk (Below.refl w.heap.size w)
 have H : (r09_Right.l0 k l0 ([] : List (S60)) 0) = some r := h
 clear h
 have H' := Aside0.mk H
 clear H
 go_enter Tryz.func32, Tryz.ntmps32
 go_wp2
 go_loopg [3, 4] k (fun kq v3 v4 w' => ∃ (x3_1 : List (S60)) (x4_1 : Int), v4 = .int .i64 x4_1 ∧ Aside0 (r09_Right.l0 kq l0 x3_1 x4_1 = some r) ∧ Aside0 (kq ≤ k) ∧ Aside0 (Kd.R k60 60 w' w.heap.size (fun _ => True) v3 x3_1) ∧ Aside0 (Below w.heap.size w w'))
 case atStart => exact ⟨(([] : List (S60))), (0), rs_, H', ⟨Nat.le_refl _⟩, ⟨nl_⟩, ⟨uW HB.out⟩⟩
 case round =>
  clear H'
  obtain ⟨x3_1, x4_1, rfl, HA, HK1, HO_3, HB⟩ := hrel
  cases gk with
  | zero => exact absurd HA.out (by simp [r09_Right.l0])
  | succ k1 =>
   have H := HA.out
   clear HA
   simp only [r09_Right.l0] at H
   by_cases c2 : x4_1 < (l0.length : Int)
   ·
    rw [if_pos c2] at H
    have c2b0 : decide (x4_1 < (l0.length : Int)) = true := decide_eq_true c2
    clear c2
    obtain ⟨c3b0, H⟩ := gdd H
    obtain ⟨bq4, hbq4⟩ : ∃ b_ : Bool, b_ = ((rd_T78 l0 x4_1).f1) := ⟨_, rfl⟩
    replace H : (if bq4 = true then (if (!(((rd_T78 l0 x4_1).f0.f2.f0) == 0) || (((rd_T78 l0 x4_1).f0.f2.f1))) = true then (some false) else (if x3_1.length < 3518437208883 then (r09_Right.l0 k1 l0 (x3_1 ++ [(⟨(rd_T78 l0 x4_1).f0.f0, (rd_T78 l0 x4_1).f0.f1, (⟨(rd_T78 l0 x4_1).f0.f2.f0, (rd_T78 l0 x4_1).f0.f2.f1⟩ : S58)⟩ : S60)]) (wrap64 (x4_1 + 1))) else (none))) else (if x3_1.length < 3518437208883 then (r09_Right.l0 k1 l0 (x3_1 ++ [(⟨(rd_T78 l0 x4_1).f0.f0, (rd_T78 l0 x4_1).f0.f1, (⟨(rd_T78 l0 x4_1).f0.f2.f0, (rd_T78 l0 x4_1).f0.f2.f1⟩ : S58)⟩ : S60)]) (wrap64 (x4_1 + 1))) else (none))) = some r := by rw [← hbq4] at H; exact H
    have Nbq4 := Aside0.mk hbq4
    clear hbq4
    by_cases c5 : bq4 = true
    ·
     subst c5
     rw [if_pos rfl] at H
     by_cases c6 : (!(((rd_T78 l0 x4_1).f0.f2.f0) == 0) || (((rd_T78 l0 x4_1).f0.f2.f1))) = true
     ·
      rw [if_pos c6] at H
      have c6b0 : (!(((rd_T78 l0 x4_1).f0.f2.f0) == 0) || (((rd_T78 l0 x4_1).f0.f2.f1))) = true := c6
      clear c6
      obtain rfl := Option.some.inj H
      have p547 : 0 ≤ (x4_1 : Int) := od
      have q547 : x4_1 < (l0.length : Int) := od
      obtain ⟨ad547, e547, hx547_0, hx547_1, hx547_2, hx547_3, hx547_4⟩ := at_T78 HR0.out x4_1 p547 q547
      (try rw [← Nbq4.out] at hx547_3)
      (try rw [← Nbq4.out] at hx547_4)
      cases e547
      replace hx547_0 := kc HB hx547_0
      replace hx547_1 := kc HB hx547_1
      replace hx547_2 := kc HB hx547_2
      replace hx547_3 := kc HB hx547_3
      replace hx547_4 := kc HB hx547_4
      replace p547 := eq_true p547
      replace q547 := eq_true q547
      have p548 : 0 ≤ (x4_1 : Int) := od
      have q548 : x4_1 < (l0.length : Int) := od
      obtain ⟨ad548, e548, hx548_0, hx548_1, hx548_2, hx548_3, hx548_4⟩ := at_T78 HR0.out x4_1 p548 q548
      (try rw [← Nbq4.out] at hx548_3)
      (try rw [← Nbq4.out] at hx548_4)
      obtain rfl : ad547 = ad548 := (by injection e548)
      replace hx548_0 := kc HB hx548_0
      replace hx548_1 := kc HB hx548_1
      replace hx548_2 := kc HB hx548_2
      replace hx548_3 := kc HB hx548_3
      replace hx548_4 := kc HB hx548_4
      replace p548 := eq_true p548
      replace q548 := eq_true q548
      go_wp2
      go_ret
      exact ⟨re_, uW HB.out⟩
     ·
      rw [if_neg c6] at H
      have c6b0 : (!(((rd_T78 l0 x4_1).f0.f2.f0) == 0) || (((rd_T78 l0 x4_1).f0.f2.f1))) = false := by simpa using c6
      clear c6
      obtain ⟨c7, H⟩ := gd H
      have LMc7 := Aside0.mk c7
      clear c7
      obtain ⟨y550, hy550⟩ : ∃ y_ : List (S60), y_ = (x3_1 ++ [(⟨(rd_T78 l0 x4_1).f0.f0, (rd_T78 l0 x4_1).f0.f1, (⟨(rd_T78 l0 x4_1).f0.f2.f0, (rd_T78 l0 x4_1).f0.f2.f1⟩ : S58)⟩ : S60)]) := ⟨_, rfl⟩
      replace H : (r09_Right.l0 k1 l0 y550 (wrap64 (x4_1 + 1))) = some r := by first | (rw [hy550]; with_reducible exact H) | (have H2_ := (Option.bind_some _ _).symm.trans H; rw [hy550]; with_reducible exact H2_) | (have H2_ := (Option.bind_some _ _).symm.trans H; with_reducible exact H2_) | with_reducible exact H | (rw [hy550]; exact H) | exact H
      have Ny550 := Aside0.mk hy550
      clear hy550
      have H' := Aside0.mk H
      clear H
      have p547 : 0 ≤ (x4_1 : Int) := od
      have q547 : x4_1 < (l0.length : Int) := od
      obtain ⟨ad547, e547, hx547_0, hx547_1, hx547_2, hx547_3, hx547_4⟩ := at_T78 HR0.out x4_1 p547 q547
      (try rw [← Nbq4.out] at hx547_3)
      (try rw [← Nbq4.out] at hx547_4)
      cases e547
      replace hx547_0 := kc HB hx547_0
      replace hx547_1 := kc HB hx547_1
      replace hx547_2 := kc HB hx547_2
      replace hx547_3 := kc HB hx547_3
      replace hx547_4 := kc HB hx547_4
      replace p547 := eq_true p547
      replace q547 := eq_true q547
      have p548 : 0 ≤ (x4_1 : Int) := od
      have q548 : x4_1 < (l0.length : Int) := od
      obtain ⟨ad548, e548, hx548_0, hx548_1, hx548_2, hx548_3, hx548_4⟩ := at_T78 HR0.out x4_1 p548 q548
      (try rw [← Nbq4.out] at hx548_3)
      (try rw [← Nbq4.out] at hx548_4)
      obtain rfl : ad547 = ad548 := (by injection e548)
      replace hx548_0 := kc HB hx548_0
      replace hx548_1 := kc HB hx548_1
      replace hx548_2 := kc HB hx548_2
      replace hx548_3 := kc HB hx548_3
      replace hx548_4 := kc HB hx548_4
      replace p548 := eq_true p548
      replace q548 := eq_true q548
      have p549 : 0 ≤ (x4_1 : Int) := od
      have q549 : x4_1 < (l0.length : Int) := od
      obtain ⟨ad549, e549, hx549_0, hx549_1, hx549_2, hx549_3, hx549_4⟩ := at_T78 HR0.out x4_1 p549 q549
      (try rw [← Nbq4.out] at hx549_3)
      (try rw [← Nbq4.out] at hx549_4)
      obtain rfl : ad547 = ad549 := (by injection e549)
      replace hx549_0 := kc HB hx549_0
      replace hx549_1 := kc HB hx549_1
      replace hx549_2 := kc HB hx549_2
      replace hx549_3 := kc HB hx549_3
      replace hx549_4 := kc HB hx549_4
      replace p549 := eq_true p549
      replace q549 := eq_true q549
      go_wp2_with (first | ((with_reducible refine gate_builtin (b := .append) (xs := #[.tmp 26, .tmp 32]) rfl ?_); at_builtin; refine Kd.R_append k60 (w0 := w) w.heap.size rfl (.tmp 26) (.tmp 32) 31 60 (.agg #[(.int .i64 0), (.string ⟨#[]⟩), (.int .i64 0), (.bool false)]) 40 rfl Tryz.underlying31 info60 rfl (by decide) (by omega) u3 x3_1 (⟨(rd_T78 l0 x4_1).f0.f0, (rd_T78 l0 x4_1).f0.f1, (⟨(rd_T78 l0 x4_1).f0.f2.f0, (rd_T78 l0 x4_1).f0.f2.f1⟩ : S58)⟩ : S60) [.int .i64 ((rd_T78 l0 x4_1).f0.f0), .string ((rd_T78 l0 x4_1).f0.f1), .int .i64 ((rd_T78 l0 x4_1).f0.f2.f0), .bool ((rd_T78 l0 x4_1).f0.f2.f1)] (fun _ => True) (fun _ => False) rfl rfl ?aP (fun _ hk => hk.elim) ?aF ?aO ?aB ?aS ?aL ?_; (case aP => exact k60_mkM _ _ _ (⟨(rd_T78 l0 x4_1).f0.f0, (rd_T78 l0 x4_1).f0.f1, (⟨(rd_T78 l0 x4_1).f0.f2.f0, (rd_T78 l0 x4_1).f0.f2.f1⟩ : S58)⟩ : S60)); (case aB => exact (uW HB.out)); (case aF => exact (fun _ _ => trivial)); (case aO => exact (uR HO_3.out)); (case aS => exact (below_size (uW HB.out))); (case aL => have := LMc7.out; omega); intro v551 w8 ho hb hg hat; rw [← Ny550.out] at ho; replace HB := Aside0.mk (hb); have HO552 := Aside0.mk (ho); clear HO_3; clear ho hb hg hat))
      go_roundg k1
      case measure => have := HK1.out; omega
      case rel => exact ⟨(y550), (wrap64 (x4_1 + 1)), rs_, (by first | exact H' | (rw [← Nbq4.out]; exact H')), ⟨by have := HK1.out; omega⟩, ⟨uR HO552.out⟩, ⟨uW HB.out⟩⟩
    ·
     replace c5 := Bool.eq_false_iff.mpr c5
     subst c5
     rw [if_neg (show ¬ (false = true) by decide)] at H
     obtain ⟨c9, H⟩ := gd H
     have LMc9 := Aside0.mk c9
     clear c9
     obtain ⟨y554, hy554⟩ : ∃ y_ : List (S60), y_ = (x3_1 ++ [(⟨(rd_T78 l0 x4_1).f0.f0, (rd_T78 l0 x4_1).f0.f1, (⟨(rd_T78 l0 x4_1).f0.f2.f0, (rd_T78 l0 x4_1).f0.f2.f1⟩ : S58)⟩ : S60)]) := ⟨_, rfl⟩
     replace H : (r09_Right.l0 k1 l0 y554 (wrap64 (x4_1 + 1))) = some r := by first | (rw [hy554]; with_reducible exact H) | (have H2_ := (Option.bind_some _ _).symm.trans H; rw [hy554]; with_reducible exact H2_) | (have H2_ := (Option.bind_some _ _).symm.trans H; with_reducible exact H2_) | with_reducible exact H | (rw [hy554]; exact H) | exact H
     have Ny554 := Aside0.mk hy554
     clear hy554
     have H' := Aside0.mk H
     clear H
     have p547 : 0 ≤ (x4_1 : Int) := od
     have q547 : x4_1 < (l0.length : Int) := od
     obtain ⟨ad547, e547, hx547_0, hx547_1, hx547_2, hx547_3, hx547_4⟩ := at_T78 HR0.out x4_1 p547 q547
     (try rw [← Nbq4.out] at hx547_3)
     (try rw [← Nbq4.out] at hx547_4)
     cases e547
     replace hx547_0 := kc HB hx547_0
     replace hx547_1 := kc HB hx547_1
     replace hx547_2 := kc HB hx547_2
     replace hx547_3 := kc HB hx547_3
     replace hx547_4 := kc HB hx547_4
     replace p547 := eq_true p547
     replace q547 := eq_true q547
     have p553 : 0 ≤ (x4_1 : Int) := od
     have q553 : x4_1 < (l0.length : Int) := od
     obtain ⟨ad553, e553, hx553_0, hx553_1, hx553_2, hx553_3, hx553_4⟩ := at_T78 HR0.out x4_1 p553 q553
     (try rw [← Nbq4.out] at hx553_3)
     (try rw [← Nbq4.out] at hx553_4)
     obtain rfl : ad547 = ad553 := (by injection e553)
     replace hx553_0 := kc HB hx553_0
     replace hx553_1 := kc HB hx553_1
     replace hx553_2 := kc HB hx553_2
     replace hx553_3 := kc HB hx553_3
     replace hx553_4 := kc HB hx553_4
     replace p553 := eq_true p553
     replace q553 := eq_true q553
     go_wp2_with (first | ((with_reducible refine gate_builtin (b := .append) (xs := #[.tmp 26, .tmp 32]) rfl ?_); at_builtin; refine Kd.R_append k60 (w0 := w) w.heap.size rfl (.tmp 26) (.tmp 32) 31 60 (.agg #[(.int .i64 0), (.string ⟨#[]⟩), (.int .i64 0), (.bool false)]) 40 rfl Tryz.underlying31 info60 rfl (by decide) (by omega) u3 x3_1 (⟨(rd_T78 l0 x4_1).f0.f0, (rd_T78 l0 x4_1).f0.f1, (⟨(rd_T78 l0 x4_1).f0.f2.f0, (rd_T78 l0 x4_1).f0.f2.f1⟩ : S58)⟩ : S60) [.int .i64 ((rd_T78 l0 x4_1).f0.f0), .string ((rd_T78 l0 x4_1).f0.f1), .int .i64 ((rd_T78 l0 x4_1).f0.f2.f0), .bool ((rd_T78 l0 x4_1).f0.f2.f1)] (fun _ => True) (fun _ => False) rfl rfl ?aP (fun _ hk => hk.elim) ?aF ?aO ?aB ?aS ?aL ?_; (case aP => exact k60_mkM _ _ _ (⟨(rd_T78 l0 x4_1).f0.f0, (rd_T78 l0 x4_1).f0.f1, (⟨(rd_T78 l0 x4_1).f0.f2.f0, (rd_T78 l0 x4_1).f0.f2.f1⟩ : S58)⟩ : S60)); (case aB => exact (uW HB.out)); (case aF => exact (fun _ _ => trivial)); (case aO => exact (uR HO_3.out)); (case aS => exact (below_size (uW HB.out))); (case aL => have := LMc9.out; omega); intro v555 w10 ho hb hg hat; rw [← Ny554.out] at ho; replace HB := Aside0.mk (hb); have HO556 := Aside0.mk (ho); clear HO_3; clear ho hb hg hat))
     go_roundg k1
     case measure => have := HK1.out; omega
     case rel => exact ⟨(y554), (wrap64 (x4_1 + 1)), rs_, (by first | exact H' | (rw [← Nbq4.out]; exact H')), ⟨by have := HK1.out; omega⟩, ⟨uR HO556.out⟩, ⟨uW HB.out⟩⟩
   ·
    rw [if_neg c2] at H
    have c2b0 : decide (x4_1 < (l0.length : Int)) = false := decide_eq_false c2
    clear c2
    obtain ⟨t557, A11, H⟩ := bs H
    try dsimp only at H
    obtain rfl := Option.some.inj H
    obtain ⟨Ao12, co12, eo12⟩ := Kd.R_slice HO_3.out
    subst eo12
    go_wp2_with (first | (refine gL (some 35) rfl Tryz.func30 #[.slice Ao12 x3_1.length co12] ?_; (with_reducible refine (r08_Right.calls k1 _ _ x3_1 t557 _ ?side1 ?side2 A11.out).mono ?_); (case side1 => exact uC <| (Kd.R_reads' HO_3.out).2.2); (case side2 => exact (Kd.R_reads' HO_3.out).2.1); rintro e w13 ⟨rfl, hb⟩; refine ⟨_, rfl, ?_⟩; replace HO_3 := cR HO_3 hb; replace HB := cW HB hb; (try clear hb)))
    go_ret
    exact ⟨re_, uW HB.out⟩
end Go.Proofs.YteckidchnicjeaaGreatDoor.X
