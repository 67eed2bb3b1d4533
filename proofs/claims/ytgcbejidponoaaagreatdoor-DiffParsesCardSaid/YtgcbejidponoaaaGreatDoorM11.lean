/- Printed by a program of this session's own: what functions of the program compute, and that the machine computes it. No condition of its own. -/
import Derived.Test.YtgcbejidponoaaaGreatDoorM3
import Derived.Test.YtgcbejidponoaaaGreatDoorM10
import Derived.Test.YtgcbejidponoaaaGreatDoorM8
namespace Go.Proofs.YtgcbejidponoaaaGreatDoor.X
open Go.RowKit Go.Proofs.YtgcbejidponoaaaGreatDoorW.PrintWords Go.Proofs.YtgcbejidponoaaaGreatDoorW.PrintLast Go.Proofs.YtgcbejidponoaaaGreatDoorW.PrintMore
attribute [local go_sem] max2_int min2_int max_two min_two max_three min_three max_four min_four
set_option linter.unusedVariables false
set_option linter.unusedSimpArgs false
set_option maxHeartbeats 8000000
set_option maxRecDepth 100000
mutual
def r03_Canon.l0 : Nat → List (S98) → Int → Option ((List (S98)) × Int)
 | 0, _, _ => none
 | k + 1, x0, x4 => if x4 < (x0.length : Int) then (if 0 ≤ x4 then ((r03_may.f k ((rd_T98 x0 x4).f0) ((rd_T98 x0 x4).f1)).bind fun t434 => (if t434 = true then (r03_Canon.l0 k x0 (wrap64 (x4 + 1))) else (some (([] : List (S98)), 2)))) else (none)) else (if (x0.length : Int) > 4 then (some (([] : List (S98)), 4)) else (r03_Canon.l1 k x0 ([] : List (S98)) 0))
def r03_Canon.l1 : Nat → List (S98) → List (S98) → Int → Option ((List (S98)) × Int)
 | 0, _, _, _ => none
 | k + 1, x0, x5, x6 => if x6 < (x0.length : Int) then (r03_Canon.l2 k x0 x5 x6 0) else (some (x5, 0))
def r03_Canon.l2 : Nat → List (S98) → List (S98) → Int → Int → Option ((List (S98)) × Int)
 | 0, _, _, _, _ => none
 | k + 1, x0, x5, x6, x7 => if x7 < (x5.length : Int) then (if 0 ≤ x7 then (if 0 ≤ x6 then (if x6 < (x0.length : Int) then (if (Op.bytesLess (((rd_T98 x5 x7).f0).toList) (((rd_T98 x0 x6).f0).toList)) = true then (r03_Canon.l2 k x0 x5 x6 (wrap64 (x7 + 1))) else (if ((rd_T98 x5 x7).f0).toList = ((rd_T98 x0 x6).f0).toList then (some (([] : List (S98)), 5)) else ((some (([] : List (S98)) : List (S98))).bind fun y439 => (if x7 ≤ (x5.length : Int) then ((some (x5.drop (x7 : Int).toNat : List (S98))).bind fun y442 => (if y439.length + y442.length < 4398046511104 then ((some (y439 ++ y442 : List (S98))).bind fun y446 => ((some (x5.take (x7 : Int).toNat : List (S98))).bind fun y449 => (if y449.length < 4398046511104 then ((some (y449 ++ [(⟨(rd_T98 x0 x6).f0, (rd_T98 x0 x6).f1⟩ : S98)] : List (S98))).bind fun y453 => (if y453.length + y446.length < 4398046511104 then (r03_Canon.l1 k x0 (y453 ++ y446) (wrap64 (x6 + 1))) else (none))) else (none)))) else (none))) else (none))))) else (none)) else (none)) else (none)) else ((some (([] : List (S98)) : List (S98))).bind fun y459 => (if 0 ≤ x7 then (if x7 ≤ (x5.length : Int) then ((some (x5.drop (x7 : Int).toNat : List (S98))).bind fun y462 => (if y459.length + y462.length < 4398046511104 then ((some (y459 ++ y462 : List (S98))).bind fun y466 => ((some (x5.take (x7 : Int).toNat : List (S98))).bind fun y469 => (if 0 ≤ x6 then (if x6 < (x0.length : Int) then (if y469.length < 4398046511104 then ((some (y469 ++ [(⟨(rd_T98 x0 x6).f0, (rd_T98 x0 x6).f1⟩ : S98)] : List (S98))).bind fun y473 => (if y473.length + y466.length < 4398046511104 then (r03_Canon.l1 k x0 (y473 ++ y466) (wrap64 (x6 + 1))) else (none))) else (none)) else (none)) else (none)))) else (none))) else (none)) else (none)))
end
def r03_Canon.f (k : Nat) (l0 : List (S98)) : Option ((List (S98)) × Int) := r03_Canon.l0 k l0 0
theorem r03_Canon.mono_l : ∀ k, (∀ y0 y1, LeC (r03_Canon.l0 k y0 y1) (r03_Canon.l0 (k + 1) y0 y1)) ∧ (∀ y0 y1 y2, LeC (r03_Canon.l1 k y0 y1 y2) (r03_Canon.l1 (k + 1) y0 y1 y2)) ∧ (∀ y0 y1 y2 y3, LeC (r03_Canon.l2 k y0 y1 y2 y3) (r03_Canon.l2 (k + 1) y0 y1 y2 y3))
 | 0 => ⟨fun _ _ => ⟨fun r h => by simp [r03_Canon.l0] at h⟩, fun _ _ _ => ⟨fun r h => by simp [r03_Canon.l1] at h⟩, fun _ _ _ _ => ⟨fun r h => by simp [r03_Canon.l2] at h⟩⟩
 | k + 1 => by obtain ⟨ih0, ih1, ih2⟩ := r03_Canon.mono_l k; exact ⟨fun _ _ => by unfold r03_Canon.l0; exact lm, fun _ _ _ => by unfold r03_Canon.l1; exact lm, fun _ _ _ _ => by unfold r03_Canon.l2; exact lm⟩
theorem r03_Canon.mono : ∀ a0 k, LeO (r03_Canon.f k a0) (r03_Canon.f (k + 1) a0) := by
 intro a0 k
 obtain ⟨ih0, ih1, ih2⟩ := r03_Canon.mono_l k
 unfold r03_Canon.f
 exact lo
instance r03_Canon.mI {a0 k} : LeC (r03_Canon.f k a0) (r03_Canon.f (k + 1) a0) := ⟨r03_Canon.mono _ _⟩
def r03_Canon.T13 : Bool × List (List Nat × List Nat) := (true, [([], []), ([], []), ([1], [1]), ([0, 2], [0, 2]), ([3], [3]), ([4], [4]), ([4], [4]), ([5, 6, 4], [4, 5, 6]), ([7, 4], [4, 7]), ([8, 4], [4, 8]), ([4], [4]), ([4], [4]), ([10, 11, 4], [4, 10, 11]), ([12, 4], [4, 12]), ([13, 4], [4, 13]), ([9, 14, 4], [4, 9, 14]), ([4, 15], [4, 15])])
def r03_Canon.B13 : List Nat := [0, 0, 2, 7, 15, 31, 31, 127, 255, 511, 31, 31, 3103, 7199, 15391, 32767, 65535]
theorem r03_Canon.tab13 : rtab .any (opsOf Tryz.f78 13) = r03_Canon.T13 := by kernel_rfl
theorem r03_Canon.bits13 : waitsOk r03_Canon.T13.2 r03_Canon.B13 = true := by kernel_rfl
def r03_Canon.T15 : Bool × List (List Nat × List Nat) := (true, [([], []), ([], []), ([1], [1]), ([0, 2], [0, 2]), ([3], [3]), ([4], [4]), ([4], [4]), ([5, 6, 4], [4, 5, 6]), ([7, 4], [4, 7]), ([8, 4], [4, 8]), ([4], [4]), ([4], [4]), ([10, 11, 4], [4, 10, 11]), ([12, 4], [4, 12]), ([13, 4], [4, 13]), ([9, 14, 4], [4, 9, 14]), ([4, 15], [4, 15])])
def r03_Canon.B15 : List Nat := [0, 0, 2, 7, 15, 31, 31, 127, 255, 511, 31, 31, 3103, 7199, 15391, 32767, 65535]
theorem r03_Canon.tab15 : rtab .any (opsOf Tryz.f78 15) = r03_Canon.T15 := by kernel_rfl
theorem r03_Canon.bits15 : waitsOk r03_Canon.T15.2 r03_Canon.B15 = true := by kernel_rfl
def r03_Canon.T18 : Bool × List (List Nat × List Nat) := (true, [([], []), ([], []), ([0, 1], [0, 1]), ([], []), ([], []), ([3, 4], [3, 4]), ([5], [5]), ([6], [6]), ([2, 7], [2, 7]), ([], []), ([8, 9, 8], [8, 9]), ([10, 10, 0, 1, 2, 3, 4, 5, 6, 7, 8, 9, 10], [0, 10])])
def r03_Canon.B18 : List Nat := [0, 0, 3, 0, 0, 24, 56, 120, 255, 0, 1023, 2047]
theorem r03_Canon.tab18 : rtab .any (opsOf Tryz.f78 18) = r03_Canon.T18 := by kernel_rfl
theorem r03_Canon.bits18 : waitsOk r03_Canon.T18.2 r03_Canon.B18 = true := by kernel_rfl
theorem r03_Canon.calls (k : Nat) (A0 : Option Addr) (c0 : Nat) (l0 : List (S98)) (r1 : List (S98)) (r2 : Int) (w : World) (hr0 : Kd.C k98 w A0 l0.length l0) (hc0 : l0.length ≤ c0) (h : r03_Canon.f k l0 = some (r1, r2)) :
 Calls Tryz.prog 78 #[.slice A0 l0.length c0] w fun e w' => ∃ v0_ : Value, e = .returned (.tuple #[v0_, .int .i64 r2]) ∧ Kd.R k98 98 w' w.heap.size (fun _ => True) v0_ r1 ∧ Below w.heap.size w w' := by
 have hu98 := Tryz.underlying98
 have HR0 := Aside0.mk hr0
 have HC0 := Aside0.mk hc0
 clear hr0 hc0
 have HB := Aside0.mk (Below.refl w.heap.size w)
 have H : (r03_Canon.l0 k l0 0) = some (r1, r2) := h
 clear h
 have H' := Aside0.mk H
 clear H
 go_enter Tryz.func78, Tryz.ntmps78
 go_wp2
 go_loopg [4] k (fun kq v4 w' => ∃ (x4_1 : Int), v4 = .int .i64 x4_1 ∧ Aside0 (r03_Canon.l0 kq l0 x4_1 = some (r1, r2)) ∧ Aside0 (kq ≤ k) ∧ Aside0 (Below w.heap.size w w'))
 case atStart => exact ⟨(0), rs_, H', ⟨Nat.le_refl _⟩, ⟨uW HB.out⟩⟩
 case round =>
  clear H'
  obtain ⟨x4_1, rfl, HA, HK1, HB⟩ := hrel
  cases gk with
  | zero => exact absurd HA.out (by simp [r03_Canon.l0])
  | succ k1 =>
   have H := HA.out
   clear HA
   simp only [r03_Canon.l0] at H
   by_cases c2 : x4_1 < (l0.length : Int)
   ·
    rw [if_pos c2] at H
    have c2b0 : decide (x4_1 < (l0.length : Int)) = true := decide_eq_true c2
    clear c2
    obtain ⟨c3b0, H⟩ := gdd H
    obtain ⟨t434, A4, H⟩ := bs H
    try dsimp only at H
    by_cases c5 : t434 = true
    ·
     subst c5
     rw [if_pos rfl] at H
     have H' := Aside0.mk H
     clear H
     have p433 : 0 ≤ (x4_1 : Int) := od
     have q433 : x4_1 < (l0.length : Int) := od
     obtain ⟨ad433, e433, hx433_0, hx433_1⟩ := at_T98 HR0.out x4_1 p433 q433
     cases e433
     replace hx433_0 := kc HB hx433_0
     replace hx433_1 := kc HB hx433_1
     replace p433 := eq_true p433
     replace q433 := eq_true q433
     go_wp2_with (first | (refine gL (some 19) rfl Tryz.func95 #[.agg #[.string ((rd_T98 l0 x4_1).f0), .string ((rd_T98 l0 x4_1).f1)]] ?_; (with_reducible refine (r03_may.calls k1 ((rd_T98 l0 x4_1).f0) ((rd_T98 l0 x4_1).f1) true _ A4.out).mono ?_); rintro e w6 ⟨rfl, hb⟩; refine ⟨_, rfl, ?_⟩; replace HB := cW HB hb; (try clear hb)))
     go_roundg k1
     case measure => have := HK1.out; omega
     case rel => exact ⟨(wrap64 (x4_1 + 1)), rs_, H', ⟨by have := HK1.out; omega⟩, ⟨uW HB.out⟩⟩
    ·
     replace c5 := Bool.eq_false_iff.mpr c5
     subst c5
     rw [if_neg (show ¬ (false = true) by decide)] at H
     simp only [Option.some.injEq, Prod.mk.injEq] at H
     obtain ⟨rfl, rfl⟩ := H
     have p433 : 0 ≤ (x4_1 : Int) := od
     have q433 : x4_1 < (l0.length : Int) := od
     obtain ⟨ad433, e433, hx433_0, hx433_1⟩ := at_T98 HR0.out x4_1 p433 q433
     cases e433
     replace hx433_0 := kc HB hx433_0
     replace hx433_1 := kc HB hx433_1
     replace p433 := eq_true p433
     replace q433 := eq_true q433
     go_wp2_with (first | (refine gL (some 19) rfl Tryz.func95 #[.agg #[.string ((rd_T98 l0 x4_1).f0), .string ((rd_T98 l0 x4_1).f1)]] ?_; (with_reducible refine (r03_may.calls k1 ((rd_T98 l0 x4_1).f0) ((rd_T98 l0 x4_1).f1) false _ A4.out).mono ?_); rintro e w7 ⟨rfl, hb⟩; refine ⟨_, rfl, ?_⟩; replace HB := cW HB hb; (try clear hb)))
     go_ret2
     exact ⟨_, re_, nl_, uW HB.out⟩
   ·
    rw [if_neg c2] at H
    have c2b0 : decide (x4_1 < (l0.length : Int)) = false := decide_eq_false c2
    clear c2
    by_cases c8 : (l0.length : Int) > 4
    ·
     rw [if_pos c8] at H
     have c8b0 : decide (4 < (l0.length : Int)) = true := decide_eq_true c8
     have c8b1 : decide (4 < l0.length) = true := decide_eq_true (by omega)
     clear c8
     simp only [Option.some.injEq, Prod.mk.injEq] at H
     obtain ⟨rfl, rfl⟩ := H
     go_wp2
     go_ret2
     exact ⟨_, re_, nl_, uW HB.out⟩
    ·
     rw [if_neg c8] at H
     have c8b0 : decide (4 < (l0.length : Int)) = false := decide_eq_false c8
     have c8b1 : decide (4 < l0.length) = false := decide_eq_false (by omega)
     clear c8
     have H' := Aside0.mk H
     clear H
     go_wp2
     go_loopg [5, 6] k1 (fun kq v5 v6 w' => ∃ (x5_2 : List (S98)) (x6_2 : Int), v6 = .int .i64 x6_2 ∧ Aside0 (r03_Canon.l1 kq l0 x5_2 x6_2 = some (r1, r2)) ∧ Aside0 (kq ≤ k1) ∧ Aside0 (Kd.R k98 98 w' w.heap.size (fun _ => True) v5 x5_2) ∧ Aside0 (Below w.heap.size w w'))
     case atStart => exact ⟨(([] : List (S98))), (0), rs_, H', ⟨Nat.le_refl _⟩, ⟨nl_⟩, ⟨uW HB.out⟩⟩
     case round =>
      clear H'
      try clear c2
      try clear c2b0
      try clear p2
      try clear c3
      try clear c3b0
      try clear p4
      try clear q4
      try clear hx4
      try clear c5
      try clear p6
      try clear c7
      try clear c8
      try clear c8b0
      try clear c8b1
      try clear hx433_0
      try clear hx433_1
      try clear p433
      try clear q433
      obtain ⟨x5_2, x6_2, rfl, HA, HK2, HO_5, HB⟩ := hrel
      cases gk with
      | zero => exact absurd HA.out (by simp [r03_Canon.l1])
      | succ k2 =>
       have H := HA.out
       clear HA
       simp only [r03_Canon.l1] at H
       by_cases c9 : x6_2 < (l0.length : Int)
       ·
        rw [if_pos c9] at H
        have c9b0 : decide (x6_2 < (l0.length : Int)) = true := decide_eq_true c9
        clear c9
        have H' := Aside0.mk H
        clear H
        go_wp2
        go_loopg [7] k2 (fun kq v7 w' => ∃ (x7_3 : Int), v7 = .int .i64 x7_3 ∧ Aside0 (r03_Canon.l2 kq l0 x5_2 x6_2 x7_3 = some (r1, r2)) ∧ Aside0 (kq ≤ k2) ∧ Aside0 (Kd.R k98 98 w' w.heap.size (fun _ => True) u5 x5_2) ∧ Aside0 (Below w.heap.size w w'))
        case atStart => exact ⟨(0), rs_, H', ⟨Nat.le_refl _⟩, ⟨uR HO_5.out⟩, ⟨uW HB.out⟩⟩
        case round =>
         clear H'
         try clear c2
         try clear c2b0
         try clear p2
         try clear c3
         try clear c3b0
         try clear p4
         try clear q4
         try clear hx4
         try clear c5
         try clear p6
         try clear c7
         try clear c8
         try clear c8b0
         try clear c8b1
         try clear c9
         try clear c9b0
         try clear hx433_0
         try clear hx433_1
         try clear p2
         try clear p4
         try clear p433
         try clear p6
         try clear q4
         try clear q433
         obtain ⟨x7_3, rfl, HA, HK3, HO_5, HB⟩ := hrel
         cases gk with
         | zero => exact absurd HA.out (by simp [r03_Canon.l2])
         | succ k3 =>
          have H := HA.out
          clear HA
          simp only [r03_Canon.l2] at H
          by_cases c10 : x7_3 < (x5_2.length : Int)
          ·
           rw [if_pos c10] at H
           have c10b0 : decide (x7_3 < (x5_2.length : Int)) = true := decide_eq_true c10
           clear c10
           obtain ⟨c11b0, H⟩ := gdd H
           obtain ⟨c12b0, H⟩ := gdd H
           obtain ⟨c13b0, H⟩ := gdd H
           by_cases c14 : (Op.bytesLess (((rd_T98 x5_2 x7_3).f0).toList) (((rd_T98 l0 x6_2).f0).toList)) = true
           ·
            rw [if_pos c14] at H
            have c14b0 : (Op.bytesLess (((rd_T98 x5_2 x7_3).f0).toList) (((rd_T98 l0 x6_2).f0).toList)) = true := c14
            clear c14
            have H' := Aside0.mk H
            clear H
            try go_wp2
            replace HO_5 := Aside0.mk (Kd.R_drew HO_5.out)
            replace HB := Aside0.mk (below_drew1 HB.out)
            obtain ⟨Ao16, co16, eo16⟩ := Kd.R_slice HO_5.out
            (first | subst eo16 | (injection eo16 with f1_ f2_ f3_; have f4_ := f1_.symm; have f5_ := f3_.symm; clear f1_ f2_ f3_; subst f4_; subst f5_))
            have p435 : 0 ≤ (x7_3 : Int) := od
            have q435 : x7_3 < (x5_2.length : Int) := od
            obtain ⟨ad435, e435, hx435_0, hx435_1⟩ := at_T98 (Kd.R_reads' HO_5.out).2.2 x7_3 p435 q435
            cases e435
            replace p435 := eq_true p435
            replace q435 := eq_true q435
            have p436 : 0 ≤ (x6_2 : Int) := od
            have q436 : x6_2 < (l0.length : Int) := od
            obtain ⟨ad436, e436, hx436_0, hx436_1⟩ := at_T98 HR0.out x6_2 p436 q436
            have hw436_1 := hx436_1
            have hw436_0 := hx436_0
            cases e436
            replace hx436_0 := kc HB hx436_0
            replace hx436_1 := kc HB hx436_1
            replace p436 := eq_true p436
            replace q436 := eq_true q436
            refine start_ (n := 17) (S := fun w' => w'.cell? (ad435.add ((x7_3).toNat * 2)) = some (.string ((rd_T98 x5_2 x7_3).f0)) ∧ w'.cell? ⟨(ad435.add ((x7_3).toNat * 2)).block, (ad435.add ((x7_3).toNat * 2)).off + 1, none⟩ = some (.string ((rd_T98 x5_2 x7_3).f1)) ∧ w'.cell? (ad436.add ((x6_2).toNat * 2)) = some (.string ((rd_T98 l0 x6_2).f0)) ∧ w'.cell? ⟨(ad436.add ((x6_2).toNat * 2)).block, (ad436.add ((x6_2).toNat * 2)).off + 1, none⟩ = some (.string ((rd_T98 l0 x6_2).f1))) (ds := []) _ (by kernel_rfl) rfl rfl ⟨hx435_0, hx435_1, (kc HB hw436_0), (kc HB hw436_1)⟩ (fun hHeld => ?_); refine with_tabW r03_Canon.tab13 r03_Canon.bits13 (fun HT_ HW_ => ?_)
            generalize wr.drew = w15 at HO_5 HB hx435_0 hx435_1 hx436_0 hx436_1 hHeld ⊢
            refine p1 0 (some 30) ?_
            refine p1 1 (some 31) ?_
            refine p1 2 (some 32) ?_
            refine p1 3 (some 33) ?_
            refine p1 4 (some 34) ?_
            refine p1 5 (some 35) ?_
            refine p1 6 (some 36) ?_
            refine p1 7 (some 37) ?_
            refine p1 8 (some 38) ?_
            refine p1 10 (some 40) ?_
            refine p1 11 (some 41) ?_
            refine p1 12 (some 42) ?_
            refine p1 13 (some 43) ?_
            refine t1 9 (some 39) rfl rfl hHeld (Or.inl ⟨by rfl, by rintro w' ⟨s0, s1, s2, s3⟩; go_simp; with_reducible rfl⟩) ?_
            refine t1 14 (some 44) rfl rfl hHeld (Or.inl ⟨by rfl, by rintro w' ⟨s0, s1, s2, s3⟩; go_simp; with_reducible rfl⟩) ?_
            refine p1 15 (some 45) ?_
            refine p1 16 (some 46) ?_
            refine done_ (done_of HT_.out (by kernel_rfl)) ?_
            try go_wp2
            go_roundg k3
            case measure => have := HK1.out; have := HK2.out; have := HK3.out; omega
            case rel => exact ⟨(wrap64 (x7_3 + 1)), rs_, H', ⟨by have := HK1.out; have := HK2.out; have := HK3.out; omega⟩, ⟨uR HO_5.out⟩, ⟨uW HB.out⟩⟩
           ·
            rw [if_neg c14] at H
            have c14b0 : (Op.bytesLess (((rd_T98 x5_2 x7_3).f0).toList) (((rd_T98 l0 x6_2).f0).toList)) = false := by simpa using c14
            clear c14
            by_cases c17 : ((rd_T98 x5_2 x7_3).f0).toList = ((rd_T98 l0 x6_2).f0).toList
            ·
             rw [if_pos c17] at H
             have c17b0 : (((rd_T98 x5_2 x7_3).f0).toList == ((rd_T98 l0 x6_2).f0).toList) = true := beq_iff_eq.mpr c17
             have c17b1 : (((rd_T98 x5_2 x7_3).f0).toList != ((rd_T98 l0 x6_2).f0).toList) = false := bne_eq_false_iff_eq.mpr c17
             clear c17
             simp only [Option.some.injEq, Prod.mk.injEq] at H
             obtain ⟨rfl, rfl⟩ := H
             try go_wp2
             replace HO_5 := Aside0.mk (Kd.R_drew HO_5.out)
             replace HB := Aside0.mk (below_drew1 HB.out)
             obtain ⟨Ao19, co19, eo19⟩ := Kd.R_slice HO_5.out
             (first | subst eo19 | (injection eo19 with f1_ f2_ f3_; have f4_ := f1_.symm; have f5_ := f3_.symm; clear f1_ f2_ f3_; subst f4_; subst f5_))
             have p435 : 0 ≤ (x7_3 : Int) := od
             have q435 : x7_3 < (x5_2.length : Int) := od
             obtain ⟨ad435, e435, hx435_0, hx435_1⟩ := at_T98 (Kd.R_reads' HO_5.out).2.2 x7_3 p435 q435
             cases e435
             replace p435 := eq_true p435
             replace q435 := eq_true q435
             have p436 : 0 ≤ (x6_2 : Int) := od
             have q436 : x6_2 < (l0.length : Int) := od
             obtain ⟨ad436, e436, hx436_0, hx436_1⟩ := at_T98 HR0.out x6_2 p436 q436
             have hw436_1 := hx436_1
             have hw436_0 := hx436_0
             cases e436
             replace hx436_0 := kc HB hx436_0
             replace hx436_1 := kc HB hx436_1
             replace p436 := eq_true p436
             replace q436 := eq_true q436
             refine start_ (n := 17) (S := fun w' => w'.cell? (ad435.add ((x7_3).toNat * 2)) = some (.string ((rd_T98 x5_2 x7_3).f0)) ∧ w'.cell? ⟨(ad435.add ((x7_3).toNat * 2)).block, (ad435.add ((x7_3).toNat * 2)).off + 1, none⟩ = some (.string ((rd_T98 x5_2 x7_3).f1)) ∧ w'.cell? (ad436.add ((x6_2).toNat * 2)) = some (.string ((rd_T98 l0 x6_2).f0)) ∧ w'.cell? ⟨(ad436.add ((x6_2).toNat * 2)).block, (ad436.add ((x6_2).toNat * 2)).off + 1, none⟩ = some (.string ((rd_T98 l0 x6_2).f1))) (ds := []) _ (by kernel_rfl) rfl rfl ⟨hx435_0, hx435_1, (kc HB hw436_0), (kc HB hw436_1)⟩ (fun hHeld => ?_); refine with_tabW r03_Canon.tab13 r03_Canon.bits13 (fun HT_ HW_ => ?_)
             generalize wr.drew = w18 at HO_5 HB hx435_0 hx435_1 hx436_0 hx436_1 hHeld ⊢
             refine p1 0 (some 30) ?_
             refine p1 1 (some 31) ?_
             refine p1 2 (some 32) ?_
             refine p1 3 (some 33) ?_
             refine p1 4 (some 34) ?_
             refine p1 5 (some 35) ?_
             refine p1 6 (some 36) ?_
             refine p1 7 (some 37) ?_
             refine p1 8 (some 38) ?_
             refine p1 10 (some 40) ?_
             refine p1 11 (some 41) ?_
             refine p1 12 (some 42) ?_
             refine p1 13 (some 43) ?_
             refine t1 9 (some 39) rfl rfl hHeld (Or.inl ⟨by rfl, by rintro w' ⟨s0, s1, s2, s3⟩; go_simp; with_reducible rfl⟩) ?_
             refine t1 14 (some 44) rfl rfl hHeld (Or.inl ⟨by rfl, by rintro w' ⟨s0, s1, s2, s3⟩; go_simp; with_reducible rfl⟩) ?_
             refine p1 15 (some 45) ?_
             refine p1 16 (some 46) ?_
             refine done_ (done_of HT_.out (by kernel_rfl)) ?_
             try go_wp2
             replace HO_5 := Aside0.mk (Kd.R_drew HO_5.out)
             replace HB := Aside0.mk (below_drew1 HB.out)
             have p437 : 0 ≤ (x7_3 : Int) := od
             have q437 : x7_3 < (x5_2.length : Int) := od
             obtain ⟨ad437, e437, hx437_0, hx437_1⟩ := at_T98 (Kd.R_reads' HO_5.out).2.2 x7_3 p437 q437
             obtain rfl : ad435 = ad437 := (by injection e437)
             replace p437 := eq_true p437
             replace q437 := eq_true q437
             have p438 : 0 ≤ (x6_2 : Int) := od
             have q438 : x6_2 < (l0.length : Int) := od
             obtain ⟨ad438, e438, hx438_0, hx438_1⟩ := at_T98 HR0.out x6_2 p438 q438
             have hw438_1 := hx438_1
             have hw438_0 := hx438_0
             obtain rfl : ad436 = ad438 := (by injection e438)
             replace hx438_0 := kc HB hx438_0
             replace hx438_1 := kc HB hx438_1
             replace p438 := eq_true p438
             replace q438 := eq_true q438
             refine start_ (n := 17) (S := fun w' => w'.cell? (ad435.add ((x7_3).toNat * 2)) = some (.string ((rd_T98 x5_2 x7_3).f0)) ∧ w'.cell? ⟨(ad435.add ((x7_3).toNat * 2)).block, (ad435.add ((x7_3).toNat * 2)).off + 1, none⟩ = some (.string ((rd_T98 x5_2 x7_3).f1)) ∧ w'.cell? (ad436.add ((x6_2).toNat * 2)) = some (.string ((rd_T98 l0 x6_2).f0)) ∧ w'.cell? ⟨(ad436.add ((x6_2).toNat * 2)).block, (ad436.add ((x6_2).toNat * 2)).off + 1, none⟩ = some (.string ((rd_T98 l0 x6_2).f1))) (ds := []) _ (by kernel_rfl) rfl rfl ⟨hx437_0, hx437_1, (kc HB hw438_0), (kc HB hw438_1)⟩ (fun hHeld => ?_); refine with_tabW r03_Canon.tab15 r03_Canon.bits15 (fun HT_ HW_ => ?_)
             generalize w18.drew = w20 at HO_5 HB hx437_0 hx437_1 hx438_0 hx438_1 hHeld ⊢
             refine p1 0 (some 49) ?_
             refine p1 1 (some 50) ?_
             refine p1 2 (some 51) ?_
             refine p1 3 (some 52) ?_
             refine p1 4 (some 53) ?_
             refine p1 5 (some 54) ?_
             refine p1 6 (some 55) ?_
             refine p1 7 (some 56) ?_
             refine p1 8 (some 57) ?_
             refine p1 10 (some 59) ?_
             refine p1 11 (some 60) ?_
             refine p1 12 (some 61) ?_
             refine p1 13 (some 62) ?_
             refine t1 9 (some 58) rfl rfl hHeld (Or.inl ⟨by rfl, by rintro w' ⟨s0, s1, s2, s3⟩; go_simp; with_reducible rfl⟩) ?_
             refine t1 14 (some 63) rfl rfl hHeld (Or.inl ⟨by rfl, by rintro w' ⟨s0, s1, s2, s3⟩; go_simp; with_reducible rfl⟩) ?_
             refine p1 15 (some 64) ?_
             refine p1 16 (some 65) ?_
             refine done_ (done_of HT_.out (by kernel_rfl)) ?_
             try go_wp2
             go_ret2
             exact ⟨_, re_, nl_, uW HB.out⟩
            ·
             rw [if_neg c17] at H
             have c17b0 : (((rd_T98 x5_2 x7_3).f0).toList == ((rd_T98 l0 x6_2).f0).toList) = false := beq_eq_false_iff_ne.mpr c17
             have c17b1 : (((rd_T98 x5_2 x7_3).f0).toList != ((rd_T98 l0 x6_2).f0).toList) = true := bne_iff_ne.mpr c17
             obtain ⟨y439, Ny439, H⟩ := ys H
             try dsimp only at H
             have c21b0 := eq_true (od : 0 ≤ x7_3)
             obtain ⟨c22, H⟩ := gd H
             have c22b0 := eq_true c22
             have c22b1 : decide (x7_3 ≤ (x5_2.length : Int)) = true := decide_eq_true c22
             clear c22
             obtain ⟨y442, Ny442, H⟩ := ys H
             try dsimp only at H
             obtain ⟨c23, H⟩ := gd H
             have LMc23 := Aside0.mk c23
             clear c23
             obtain ⟨y446, Ny446, H⟩ := ys H
             try dsimp only at H
             have c24b0 := eq_true (od : x7_3 ≤ (x5_2.length : Int))
             obtain ⟨y449, Ny449, H⟩ := ys H
             try dsimp only at H
             obtain ⟨c25, H⟩ := gd H
             have LMc25 := Aside0.mk c25
             clear c25
             obtain ⟨y453, Ny453, H⟩ := ys H
             try dsimp only at H
             obtain ⟨c26, H⟩ := gd H
             have LMc26 := Aside0.mk c26
             clear c26
             obtain ⟨y456, hy456⟩ : ∃ y_ : List (S98), y_ = (y453 ++ y446) := ⟨_, rfl⟩
             replace H : (r03_Canon.l1 k3 l0 y456 (wrap64 (x6_2 + 1))) = some (r1, r2) := by first | (rw [hy456]; with_reducible exact H) | (have H2_ := (Option.bind_some _ _).symm.trans H; rw [hy456]; with_reducible exact H2_) | (have H2_ := (Option.bind_some _ _).symm.trans H; with_reducible exact H2_) | with_reducible exact H | (rw [hy456]; exact H) | exact H
             have Ny456 := Aside0.mk hy456
             clear hy456
             have H' := Aside0.mk H
             clear H
             try go_wp2
             replace HO_5 := Aside0.mk (Kd.R_drew HO_5.out)
             replace HB := Aside0.mk (below_drew1 HB.out)
             obtain ⟨Ao28, co28, eo28⟩ := Kd.R_slice HO_5.out
             (first | subst eo28 | (injection eo28 with f1_ f2_ f3_; have f4_ := f1_.symm; have f5_ := f3_.symm; clear f1_ f2_ f3_; subst f4_; subst f5_))
             have p435 : 0 ≤ (x7_3 : Int) := od
             have q435 : x7_3 < (x5_2.length : Int) := od
             obtain ⟨ad435, e435, hx435_0, hx435_1⟩ := at_T98 (Kd.R_reads' HO_5.out).2.2 x7_3 p435 q435
             cases e435
             replace p435 := eq_true p435
             replace q435 := eq_true q435
             have p436 : 0 ≤ (x6_2 : Int) := od
             have q436 : x6_2 < (l0.length : Int) := od
             obtain ⟨ad436, e436, hx436_0, hx436_1⟩ := at_T98 HR0.out x6_2 p436 q436
             have hw436_1 := hx436_1
             have hw436_0 := hx436_0
             cases e436
             replace hx436_0 := kc HB hx436_0
             replace hx436_1 := kc HB hx436_1
             replace p436 := eq_true p436
             replace q436 := eq_true q436
             refine start_ (n := 17) (S := fun w' => w'.cell? (ad435.add ((x7_3).toNat * 2)) = some (.string ((rd_T98 x5_2 x7_3).f0)) ∧ w'.cell? ⟨(ad435.add ((x7_3).toNat * 2)).block, (ad435.add ((x7_3).toNat * 2)).off + 1, none⟩ = some (.string ((rd_T98 x5_2 x7_3).f1)) ∧ w'.cell? (ad436.add ((x6_2).toNat * 2)) = some (.string ((rd_T98 l0 x6_2).f0)) ∧ w'.cell? ⟨(ad436.add ((x6_2).toNat * 2)).block, (ad436.add ((x6_2).toNat * 2)).off + 1, none⟩ = some (.string ((rd_T98 l0 x6_2).f1))) (ds := []) _ (by kernel_rfl) rfl rfl ⟨hx435_0, hx435_1, (kc HB hw436_0), (kc HB hw436_1)⟩ (fun hHeld => ?_); refine with_tabW r03_Canon.tab13 r03_Canon.bits13 (fun HT_ HW_ => ?_)
             generalize wr.drew = w27 at HO_5 HB hx435_0 hx435_1 hx436_0 hx436_1 hHeld ⊢
             refine p1 0 (some 30) ?_
             refine p1 1 (some 31) ?_
             refine p1 2 (some 32) ?_
             refine p1 3 (some 33) ?_
             refine p1 4 (some 34) ?_
             refine p1 5 (some 35) ?_
             refine p1 6 (some 36) ?_
             refine p1 7 (some 37) ?_
             refine p1 8 (some 38) ?_
             refine p1 10 (some 40) ?_
             refine p1 11 (some 41) ?_
             refine p1 12 (some 42) ?_
             refine p1 13 (some 43) ?_
             refine t1 9 (some 39) rfl rfl hHeld (Or.inl ⟨by rfl, by rintro w' ⟨s0, s1, s2, s3⟩; go_simp; with_reducible rfl⟩) ?_
             refine t1 14 (some 44) rfl rfl hHeld (Or.inl ⟨by rfl, by rintro w' ⟨s0, s1, s2, s3⟩; go_simp; with_reducible rfl⟩) ?_
             refine p1 15 (some 45) ?_
             refine p1 16 (some 46) ?_
             refine done_ (done_of HT_.out (by kernel_rfl)) ?_
             try go_wp2
             replace HO_5 := Aside0.mk (Kd.R_drew HO_5.out)
             replace HB := Aside0.mk (below_drew1 HB.out)
             have p437 : 0 ≤ (x7_3 : Int) := od
             have q437 : x7_3 < (x5_2.length : Int) := od
             obtain ⟨ad437, e437, hx437_0, hx437_1⟩ := at_T98 (Kd.R_reads' HO_5.out).2.2 x7_3 p437 q437
             obtain rfl : ad435 = ad437 := (by injection e437)
             replace p437 := eq_true p437
             replace q437 := eq_true q437
             have p438 : 0 ≤ (x6_2 : Int) := od
             have q438 : x6_2 < (l0.length : Int) := od
             obtain ⟨ad438, e438, hx438_0, hx438_1⟩ := at_T98 HR0.out x6_2 p438 q438
             have hw438_1 := hx438_1
             have hw438_0 := hx438_0
             obtain rfl : ad436 = ad438 := (by injection e438)
             replace hx438_0 := kc HB hx438_0
             replace hx438_1 := kc HB hx438_1
             replace p438 := eq_true p438
             replace q438 := eq_true q438
             refine start_ (n := 17) (S := fun w' => w'.cell? (ad435.add ((x7_3).toNat * 2)) = some (.string ((rd_T98 x5_2 x7_3).f0)) ∧ w'.cell? ⟨(ad435.add ((x7_3).toNat * 2)).block, (ad435.add ((x7_3).toNat * 2)).off + 1, none⟩ = some (.string ((rd_T98 x5_2 x7_3).f1)) ∧ w'.cell? (ad436.add ((x6_2).toNat * 2)) = some (.string ((rd_T98 l0 x6_2).f0)) ∧ w'.cell? ⟨(ad436.add ((x6_2).toNat * 2)).block, (ad436.add ((x6_2).toNat * 2)).off + 1, none⟩ = some (.string ((rd_T98 l0 x6_2).f1))) (ds := []) _ (by kernel_rfl) rfl rfl ⟨hx437_0, hx437_1, (kc HB hw438_0), (kc HB hw438_1)⟩ (fun hHeld => ?_); refine with_tabW r03_Canon.tab15 r03_Canon.bits15 (fun HT_ HW_ => ?_)
             generalize w27.drew = w29 at HO_5 HB hx437_0 hx437_1 hx438_0 hx438_1 hHeld ⊢
             refine p1 0 (some 49) ?_
             refine p1 1 (some 50) ?_
             refine p1 2 (some 51) ?_
             refine p1 3 (some 52) ?_
             refine p1 4 (some 53) ?_
             refine p1 5 (some 54) ?_
             refine p1 6 (some 55) ?_
             refine p1 7 (some 56) ?_
             refine p1 8 (some 57) ?_
             refine p1 10 (some 59) ?_
             refine p1 11 (some 60) ?_
             refine p1 12 (some 61) ?_
             refine p1 13 (some 62) ?_
             refine t1 9 (some 58) rfl rfl hHeld (Or.inl ⟨by rfl, by rintro w' ⟨s0, s1, s2, s3⟩; go_simp; with_reducible rfl⟩) ?_
             refine t1 14 (some 63) rfl rfl hHeld (Or.inl ⟨by rfl, by rintro w' ⟨s0, s1, s2, s3⟩; go_simp; with_reducible rfl⟩) ?_
             refine p1 15 (some 64) ?_
             refine p1 16 (some 65) ?_
             refine done_ (done_of HT_.out (by kernel_rfl)) ?_
             try go_wp2_with (first | ((with_reducible refine gate_dst (N := 66) rfl ?_); refine Kd.R_lit k98 _ 98 ?hg (N := 66) ?hd (xs := ([] : List (S98))) (inner := []) (ok := fun _ => True) (okp := fun _ => True) ?hr ?hp (fun _ hk => hk) trivial (Below.refl _ _) (Nat.le_refl _) (by simp) ?_; (case hd => rfl); (case hg => rfl); (case hr => first | (go_simp; done) | (go_simp; rfl)); (case hp => exact (Reps.none _ _)); intro v440 w30 ho31 hb hg_ hnew_; clear hg_ hnew_; (first | rw [← Ny439.out] at ho31 | (simp only [Int.reduceToNat] at ho31; rw [← Ny439.out] at ho31)); have HO441 := Aside0.mk (Kd.R_lower (Kd.R_new' ho31 (Kd.R_lt (uR HO_5.out))) (below_size (uW HB.out))); replace HO_5 := Aside0.mk (Kd.R_elder' (uR HO_5.out) (Kd.R_base ho31) hb); replace HB := cW HB hb; clear hb ho31; have q32 : (x7_3 : Int) ≤ ((x5_2.length : Int) : Int) := od; obtain ⟨i032, hi032, _, hsz32, _⟩ := info_parts info98; have hroom32 : x5_2.length ≤ co28 := (Kd.R_reads' HO_5.out).2.1; have hC32 : Kd.C k98 _ (some ad435) x5_2.length x5_2 := (Kd.R_reads' HO_5.out).2.2; have q032 : (0 : Int) ≤ (x7_3 : Int) := od; have hcut32 := cut_from (P := Tryz.prog) 78 98 .i64 Tryz.underlying78 hi032 2 hsz32 (some ad435) x5_2.length co28 x7_3 q032 q32; have hr32 := Kd.C_drop (m := (x7_3 : Int).toNat) (c := co28) hC32 (by omega) hroom32; obtain ⟨A32, hA32⟩ : ∃ A1, A1 = (if co28 = (x7_3 : Int).toNat then (some ad435) else ((some ad435) : Option Addr).map (·.add ((x7_3 : Int).toNat * 2))) := ⟨_, rfl⟩; obtain ⟨c32, hc32⟩ : ∃ c1, c1 = co28 - (x7_3 : Int).toNat := ⟨_, rfl⟩; have hy32 : y442.length = x5_2.length - (x7_3 : Int).toNat := (by rw [Ny442.out, List.length_drop] <;> omega); rw [show (x5_2).drop (x7_3 : Int).toNat = y442 from Ny442.out.symm] at hr32; replace hr32 : Kd.C k98 _ A32 y442.length y442 := (by rw [hA32]; exact hr32); rw [← hy32, ← hA32, ← hc32] at hcut32; have HR445 := Aside0.mk hr32; have HC445 := Aside0.mk (show y442.length ≤ c32 from by rw [hy32, hc32]; exact Nat.sub_le_sub_right hroom32 _); clear hr32 hC32 hroom32 hi032 hsz32 hc32; have KY32 := Aside0.mk hy32; have KA32 := Aside0.mk hA32; clear hy32 hA32; have KL32 := Aside0.mk (show (x7_3 : Int).toNat ≤ x5_2.length from by omega); replace q32 := eq_true q32) | ((with_reducible refine gate_builtin (b := .append) (xs := #[.tmp 66, .tmp 69]) rfl ?_); at_builtin; refine Kd.R_append_rows k98 (w0 := w) w.heap.size rfl (.tmp 66) (.tmp 69) 78 98 (.agg #[(.string ⟨#[]⟩), (.string ⟨#[]⟩)]) 32 rfl Tryz.underlying78 info98 rfl (by decide) (by omega) v440 y439 y442 _ _ _ (fun k_ => some k_ ≠ (.slice (some ad435) x5_2.length co28 : Value).ownBlock) (fun _ => False) rfl rfl ?aO ?aR (fun _ _ h => h) (fun _ h => h.elim) ?aF ?aB ?aS ?aL ?_; (case aR => repeat (first | exact (by repeat (first | (with_reducible exact HR445.out) | (with_reducible refine Kd.C_alloc ?_ _) | (with_reducible refine Kd.C_drewN ?_ _) | (with_reducible refine Kd.C_drew ?_) | exact HR445.out)) | (with_reducible refine Kd.C_alloc ?_ _) | (with_reducible refine Kd.C_drewN ?_ _) | (with_reducible refine Kd.C_drew ?_))); (case aB => exact (uW HB.out)); (case aF => exact (fun k_ hk => Kd.fresh' (Kd.R_lt (uR HO_5.out)) k_ hk)); (case aO => exact (by exact uR <| Kd.R_mono HO441.out (fun _ hk => hk.2))); (case aS => exact (below_size (uW HB.out))); (case aL => have := LMc23.out; omega); intro v447 w33 ho hb hg hat; rw [← Ny446.out] at ho; replace HB := Aside0.mk (hb); replace HR445 := Aside0.mk ((show Kd.C k98 w33 A32 y442.length y442 from by rw [Ny442.out, KA32.out]; exact Kd.C_drop (m := (x7_3 : Int).toNat) (c := co28) ((Kd.R_reads' (Kd.R_after (ok := (fun _ => True)) (uR HO_5.out) hg hat)).2.2) KL32.out ((Kd.R_reads' (Kd.R_after (ok := (fun _ => True)) (uR HO_5.out) hg hat)).2.1))); replace HO_5 := Aside0.mk (Kd.R_after (ok := (fun _ => True)) (uR HO_5.out) hg hat); have HO448 := Aside0.mk (ho); clear HO441; clear ho hb hg hat))
             replace HO_5 := Aside0.mk (Kd.R_drew HO_5.out)
             replace HO448 := Aside0.mk (Kd.R_drew HO448.out)
             replace HR445 := Aside0.mk (Kd.C_drew HR445.out)
             replace HB := Aside0.mk (below_drew1 HB.out)
             have q35 : (x7_3 : Int) ≤ ((x5_2.length : Int) : Int) := od
             obtain ⟨i035, hi035, _, hsz35, _⟩ := info_parts info98
             have hcut35 := cut_to (P := Tryz.prog) 78 98 .i64 Tryz.underlying78 hi035 (some ad435) x5_2.length co28 x7_3 (od) q35 (Kd.R_reads' HO_5.out).2.1
             have hr35 := Kd.R_take (m := (x7_3 : Int).toNat) HO_5.out (by omega)
             have hy35 : y449.length = (x7_3 : Int).toNat := (by rw [Ny449.out, List.length_take]; omega)
             rw [← Ny449.out] at hr35
             rw [← hy35] at hr35 hcut35
             clear hy35 hi035 hsz35 HO_5
             have HO451 := Aside0.mk hr35
             clear hr35
             replace q35 := eq_true q35
             have p452 : 0 ≤ (x6_2 : Int) := od
             have q452 : x6_2 < (l0.length : Int) := od
             obtain ⟨ad452, e452, hx452_0, hx452_1⟩ := at_T98 HR0.out x6_2 p452 q452
             have hw452_1 := hx452_1
             have hw452_0 := hx452_0
             obtain rfl : ad436 = ad452 := (by injection e452)
             replace hx452_0 := kc HB hx452_0
             replace hx452_1 := kc HB hx452_1
             replace p452 := eq_true p452
             replace q452 := eq_true q452
             refine start_ (n := 12) (S := fun w' => w'.cell? (ad436.add ((x6_2).toNat * 2)) = some (.string ((rd_T98 l0 x6_2).f0)) ∧ w'.cell? ⟨(ad436.add ((x6_2).toNat * 2)).block, (ad436.add ((x6_2).toNat * 2)).off + 1, none⟩ = some (.string ((rd_T98 l0 x6_2).f1))) (ds := []) _ (by kernel_rfl) rfl rfl ⟨(kc HB hw452_0), (kc HB hw452_1)⟩ (fun hHeld => ?_); refine with_tabW r03_Canon.tab18 r03_Canon.bits18 (fun HT_ HW_ => ?_)
             generalize w33.drew = w34 at HO448 HR445 HB HO451 hx452_0 hx452_1 hHeld ⊢
             refine p1 0 (some 71) ?_
             refine p1 1 (some 72) ?_
             refine p1 2 (some 73) ?_
             refine p1 3 (some 74) ?_
             refine p1 4 (some 75) ?_
             refine p1 5 (some 76) ?_
             refine p1 9 (some 80) ?_
             refine t1 6 (some 77) rfl rfl hHeld (Or.inl ⟨by rfl, by rintro w' ⟨s0, s1⟩; go_simp; with_reducible rfl⟩) ?_
             refine o1 7 (some 78) rfl rfl (fun K hK => ?_)
             refine value_ (w1 := ?_) (v := ?_) (by rfl) rfl ?_ ?_
             rotate_left 2
             ·
              go_simp
              constructor
              ·
               rfl
              ·
               rfl
             refine hK.out _ _ ⟨(World.cell?_alloc_lt _ _ _ (World.block_lt_of_cell? _ _ ((kc HB hw452_0)))).trans ((kc HB hw452_0)), (World.cell?_alloc_lt _ _ _ (World.block_lt_of_cell? _ _ ((kc HB hw452_1)))).trans ((kc HB hw452_1))⟩ (fun hHeld => ?_)
             clear hK K
             refine norm_ (a' := ?_) ?_ ?_
             rotate_left
             ·
              show Act.put _ (some 78) _ = _
              simp only [Act.put, List.setIfInBounds_toArray, List.set_cons_zero, List.set_cons_succ, i64_w, i32_w]
              rfl
             refine o1 8 (some 79) rfl rfl (fun K hK => ?_)
             refine Kd.R_append_step k98 (w0 := w) w.heap.size (by rfl) (.tmp 73) (.tmp 78) 78 98 (.agg #[(.string ⟨#[]⟩), (.string ⟨#[]⟩)]) 32 rfl Tryz.underlying78 info98 rfl (by decide) (by omega) (.slice (some ad435) y449.length co28) y449 (⟨(rd_T98 l0 x6_2).f0, (rd_T98 l0 x6_2).f1⟩ : S98) [.string ((rd_T98 l0 x6_2).f0), .string ((rd_T98 l0 x6_2).f1)] (fun k_ => some k_ ≠ (v447 : Value).ownBlock) (fun _ => False) rfl rfl ?aP (fun _ hk => hk.elim) ?aF ?aO ?aB ?aS ?aL ?_
             (case aP => exact k98_mkM _ _ _ (⟨(rd_T98 l0 x6_2).f0, (rd_T98 l0 x6_2).f1⟩ : S98))
             (case aB => exact (uW HB.out))
             (case aF => exact (fun k_ hk => Kd.fresh' (Kd.R_lt (uR HO448.out)) k_ hk))
             (case aO => exact (by exact uR <| Kd.R_mono HO451.out (fun _ hk => hk.2)))
             (case aS => exact (below_size (uW HB.out)))
             (case aL => have := LMc25.out; omega)
             intro v454 w36 ho hb hg hat
             rw [← Ny453.out] at ho
             replace HO448 := Aside0.mk (Kd.R_after (ok := (fun _ => True)) (by exact uR <| Kd.R_mono HO448.out (fun _ hk => ⟨trivial, hk⟩)) hg hat)
             replace HB := Aside0.mk (hb)
             have HO455 := Aside0.mk (ho)
             clear HO451
             clear ho hb hg hat
             obtain ⟨Ao38, co38, eo38⟩ := Kd.R_slice HO448.out
             (first | subst eo38 | (injection eo38 with f1_ f2_ f3_; have f4_ := f1_.symm; have f5_ := f3_.symm; clear f1_ f2_ f3_; subst f4_; subst f5_))
             refine hK.out _ _ ⟨(kc HB hw452_0), (kc HB hw452_1)⟩ (fun hHeld => ?_)
             clear hK K
             refine norm_ (a' := ?_) ?_ ?_
             rotate_left
             ·
              show Act.put _ (some 79) _ = _
              simp only [Act.put, List.setIfInBounds_toArray, List.set_cons_zero, List.set_cons_succ, i64_w, i32_w]
              rfl
             refine o1 10 (some 81) rfl rfl (fun K hK => ?_)
             refine Kd.R_append_rows_step k98 (w0 := w) w.heap.size (by rfl) (.tmp 79) (.tmp 80) 78 98 (.agg #[(.string ⟨#[]⟩), (.string ⟨#[]⟩)]) 32 rfl Tryz.underlying78 info98 rfl (by decide) (by omega) v454 y453 y446 _ _ _ (fun k_ => some k_ ≠ (.slice Ao38 y446.length co38 : Value).ownBlock) (fun _ => False) rfl rfl ?aO ?aR (fun _ _ h => h) (fun _ h => h.elim) ?aF ?aB ?aS ?aL ?_
             (case aR => exact uC <| (Kd.R_reads' HO448.out).2.2)
             (case aB => exact (uW HB.out))
             (case aF => exact (fun k_ hk => Kd.fresh' (Kd.R_lt (uR HO448.out)) k_ hk))
             (case aO => exact (uR HO455.out))
             (case aS => exact (below_size (uW HB.out)))
             (case aL => have := LMc26.out; omega)
             intro v457 w37 ho hb hg hat
             rw [← Ny456.out] at ho
             replace HO448 := Aside0.mk (Kd.R_after (ok := (fun _ => True)) (uR HO448.out) hg hat)
             replace HB := Aside0.mk (hb)
             have HO458 := Aside0.mk (ho)
             clear HO455
             clear ho hb hg hat
             refine hK.out _ _ ⟨(kc HB hw452_0), (kc HB hw452_1)⟩ (fun hHeld => ?_)
             clear hK K
             refine norm_ (a' := ?_) ?_ ?_
             rotate_left
             ·
              show Act.put _ (some 81) _ = _
              simp only [Act.put, List.setIfInBounds_toArray, List.set_cons_zero, List.set_cons_succ, i64_w, i32_w]
              rfl
             refine p1 11 (some 5) ?_
             refine done_ (done_of HT_.out (by kernel_rfl)) ?_
             try go_wp2
             go_roundg k3
             case measure => have := HK1.out; have := HK2.out; have := HK3.out; omega
             case rel => exact ⟨(y456), (wrap64 (x6_2 + 1)), rs_, H', ⟨by have := HK1.out; have := HK2.out; have := HK3.out; omega⟩, ⟨by exact uR <| Kd.R_mono HO458.out (fun _ hk => trivial)⟩, ⟨uW HB.out⟩⟩
          ·
           rw [if_neg c10] at H
           have c10b0 : decide (x7_3 < (x5_2.length : Int)) = false := decide_eq_false c10
           clear c10
           obtain ⟨y459, Ny459, H⟩ := ys H
           try dsimp only at H
           obtain ⟨c39, H⟩ := gd H
           have c39b0 := eq_true c39
           have c39b1 : decide (0 ≤ x7_3) = true := decide_eq_true c39
           clear c39
           obtain ⟨c40, H⟩ := gd H
           have c40b0 := eq_true c40
           have c40b1 : decide (x7_3 ≤ (x5_2.length : Int)) = true := decide_eq_true c40
           clear c40
           obtain ⟨y462, Ny462, H⟩ := ys H
           try dsimp only at H
           obtain ⟨c41, H⟩ := gd H
           have LMc41 := Aside0.mk c41
           clear c41
           obtain ⟨y466, Ny466, H⟩ := ys H
           try dsimp only at H
           have c42b0 := eq_true (od : x7_3 ≤ (x5_2.length : Int))
           obtain ⟨y469, Ny469, H⟩ := ys H
           try dsimp only at H
           obtain ⟨c43b0, H⟩ := gdd H
           obtain ⟨c44b0, H⟩ := gdd H
           obtain ⟨c45, H⟩ := gd H
           have LMc45 := Aside0.mk c45
           clear c45
           obtain ⟨y473, Ny473, H⟩ := ys H
           try dsimp only at H
           obtain ⟨c46, H⟩ := gd H
           have LMc46 := Aside0.mk c46
           clear c46
           obtain ⟨y476, hy476⟩ : ∃ y_ : List (S98), y_ = (y473 ++ y466) := ⟨_, rfl⟩
           replace H : (r03_Canon.l1 k3 l0 y476 (wrap64 (x6_2 + 1))) = some (r1, r2) := by first | (rw [hy476]; with_reducible exact H) | (have H2_ := (Option.bind_some _ _).symm.trans H; rw [hy476]; with_reducible exact H2_) | (have H2_ := (Option.bind_some _ _).symm.trans H; with_reducible exact H2_) | with_reducible exact H | (rw [hy476]; exact H) | exact H
           have Ny476 := Aside0.mk hy476
           clear hy476
           have H' := Aside0.mk H
           clear H
           try go_wp2
           replace HO_5 := Aside0.mk (Kd.R_drew HO_5.out)
           replace HB := Aside0.mk (below_drew1 HB.out)
           obtain ⟨Ao48, co48, eo48⟩ := Kd.R_slice HO_5.out
           (first | subst eo48 | (injection eo48 with f1_ f2_ f3_; have f4_ := f1_.symm; have f5_ := f3_.symm; clear f1_ f2_ f3_; subst f4_; subst f5_))
           refine start_ (n := 17) (S := fun w' => True) (ds := []) _ (by kernel_rfl) rfl rfl trivial (fun hHeld => ?_); refine with_tabW r03_Canon.tab13 r03_Canon.bits13 (fun HT_ HW_ => ?_)
           generalize wr.drew = w47 at HO_5 HB hHeld ⊢
           refine p1 0 (some 30) ?_
           refine p1 1 (some 31) ?_
           refine p1 2 (some 32) ?_
           refine p1 3 (some 33) ?_
           refine p1 4 (some 34) ?_
           refine p2 5 (some 35) ?_
           refine p2 6 (some 36) ?_
           refine p2 7 (some 37) ?_
           refine p2 8 (some 38) ?_
           refine p2 9 (some 39) ?_
           refine p2 10 (some 40) ?_
           refine p2 11 (some 41) ?_
           refine p2 12 (some 42) ?_
           refine p2 13 (some 43) ?_
           refine p2 14 (some 44) ?_
           refine p2 15 (some 45) ?_
           refine p1 16 (some 46) ?_
           refine done_ (done_of HT_.out (by kernel_rfl)) ?_
           try go_wp2
           replace HO_5 := Aside0.mk (Kd.R_drew HO_5.out)
           replace HB := Aside0.mk (below_drew1 HB.out)
           refine start_ (n := 17) (S := fun w' => True) (ds := []) _ (by kernel_rfl) rfl rfl trivial (fun hHeld => ?_); refine with_tabW r03_Canon.tab15 r03_Canon.bits15 (fun HT_ HW_ => ?_)
           generalize w47.drew = w49 at HO_5 HB hHeld ⊢
           refine p1 0 (some 49) ?_
           refine p1 1 (some 50) ?_
           refine p1 2 (some 51) ?_
           refine p1 3 (some 52) ?_
           refine p1 4 (some 53) ?_
           refine p2 5 (some 54) ?_
           refine p2 6 (some 55) ?_
           refine p2 7 (some 56) ?_
           refine p2 8 (some 57) ?_
           refine p2 9 (some 58) ?_
           refine p2 10 (some 59) ?_
           refine p2 11 (some 60) ?_
           refine p2 12 (some 61) ?_
           refine p2 13 (some 62) ?_
           refine p2 14 (some 63) ?_
           refine p2 15 (some 64) ?_
           refine p1 16 (some 65) ?_
           refine done_ (done_of HT_.out (by kernel_rfl)) ?_
           try go_wp2_with (first | ((with_reducible refine gate_dst (N := 66) rfl ?_); refine Kd.R_lit k98 _ 98 ?hg (N := 66) ?hd (xs := ([] : List (S98))) (inner := []) (ok := fun _ => True) (okp := fun _ => True) ?hr ?hp (fun _ hk => hk) trivial (Below.refl _ _) (Nat.le_refl _) (by simp) ?_; (case hd => rfl); (case hg => rfl); (case hr => first | (go_simp; done) | (go_simp; rfl)); (case hp => exact (Reps.none _ _)); intro v460 w50 ho51 hb hg_ hnew_; clear hg_ hnew_; (first | rw [← Ny459.out] at ho51 | (simp only [Int.reduceToNat] at ho51; rw [← Ny459.out] at ho51)); have HO461 := Aside0.mk (Kd.R_lower (Kd.R_new' ho51 (Kd.R_lt (uR HO_5.out))) (below_size (uW HB.out))); replace HO_5 := Aside0.mk (Kd.R_elder' (uR HO_5.out) (Kd.R_base ho51) hb); replace HB := cW HB hb; clear hb ho51; have q52 : (x7_3 : Int) ≤ ((x5_2.length : Int) : Int) := od; obtain ⟨i052, hi052, _, hsz52, _⟩ := info_parts info98; have hroom52 : x5_2.length ≤ co48 := (Kd.R_reads' HO_5.out).2.1; have hC52 : Kd.C k98 _ Ao48 x5_2.length x5_2 := (Kd.R_reads' HO_5.out).2.2; have q052 : (0 : Int) ≤ (x7_3 : Int) := od; have hcut52 := cut_from (P := Tryz.prog) 78 98 .i64 Tryz.underlying78 hi052 2 hsz52 Ao48 x5_2.length co48 x7_3 q052 q52; have hr52 := Kd.C_drop (m := (x7_3 : Int).toNat) (c := co48) hC52 (by omega) hroom52; obtain ⟨A52, hA52⟩ : ∃ A1, A1 = (if co48 = (x7_3 : Int).toNat then Ao48 else (Ao48 : Option Addr).map (·.add ((x7_3 : Int).toNat * 2))) := ⟨_, rfl⟩; obtain ⟨c52, hc52⟩ : ∃ c1, c1 = co48 - (x7_3 : Int).toNat := ⟨_, rfl⟩; have hy52 : y462.length = x5_2.length - (x7_3 : Int).toNat := (by rw [Ny462.out, List.length_drop] <;> omega); rw [show (x5_2).drop (x7_3 : Int).toNat = y462 from Ny462.out.symm] at hr52; replace hr52 : Kd.C k98 _ A52 y462.length y462 := (by rw [hA52]; exact hr52); rw [← hy52, ← hA52, ← hc52] at hcut52; have HR465 := Aside0.mk hr52; have HC465 := Aside0.mk (show y462.length ≤ c52 from by rw [hy52, hc52]; exact Nat.sub_le_sub_right hroom52 _); clear hr52 hC52 hroom52 hi052 hsz52 hc52; have KY52 := Aside0.mk hy52; have KA52 := Aside0.mk hA52; clear hy52 hA52; have KL52 := Aside0.mk (show (x7_3 : Int).toNat ≤ x5_2.length from by omega); replace q52 := eq_true q52) | ((with_reducible refine gate_builtin (b := .append) (xs := #[.tmp 66, .tmp 69]) rfl ?_); at_builtin; refine Kd.R_append_rows k98 (w0 := w) w.heap.size rfl (.tmp 66) (.tmp 69) 78 98 (.agg #[(.string ⟨#[]⟩), (.string ⟨#[]⟩)]) 32 rfl Tryz.underlying78 info98 rfl (by decide) (by omega) v460 y459 y462 _ _ _ (fun k_ => some k_ ≠ (.slice Ao48 x5_2.length co48 : Value).ownBlock) (fun _ => False) rfl rfl ?aO ?aR (fun _ _ h => h) (fun _ h => h.elim) ?aF ?aB ?aS ?aL ?_; (case aR => repeat (first | exact (by repeat (first | (with_reducible exact HR465.out) | (with_reducible refine Kd.C_alloc ?_ _) | (with_reducible refine Kd.C_drewN ?_ _) | (with_reducible refine Kd.C_drew ?_) | exact HR465.out)) | (with_reducible refine Kd.C_alloc ?_ _) | (with_reducible refine Kd.C_drewN ?_ _) | (with_reducible refine Kd.C_drew ?_))); (case aB => exact (uW HB.out)); (case aF => exact (fun k_ hk => Kd.fresh' (Kd.R_lt (uR HO_5.out)) k_ hk)); (case aO => exact (by exact uR <| Kd.R_mono HO461.out (fun _ hk => hk.2))); (case aS => exact (below_size (uW HB.out))); (case aL => have := LMc41.out; omega); intro v467 w53 ho hb hg hat; rw [← Ny466.out] at ho; replace HB := Aside0.mk (hb); replace HR465 := Aside0.mk ((show Kd.C k98 w53 A52 y462.length y462 from by rw [Ny462.out, KA52.out]; exact Kd.C_drop (m := (x7_3 : Int).toNat) (c := co48) ((Kd.R_reads' (Kd.R_after (ok := (fun _ => True)) (uR HO_5.out) hg hat)).2.2) KL52.out ((Kd.R_reads' (Kd.R_after (ok := (fun _ => True)) (uR HO_5.out) hg hat)).2.1))); replace HO_5 := Aside0.mk (Kd.R_after (ok := (fun _ => True)) (uR HO_5.out) hg hat); have HO468 := Aside0.mk (ho); clear HO461; clear ho hb hg hat))
           replace HO_5 := Aside0.mk (Kd.R_drew HO_5.out)
           replace HO468 := Aside0.mk (Kd.R_drew HO468.out)
           replace HR465 := Aside0.mk (Kd.C_drew HR465.out)
           replace HB := Aside0.mk (below_drew1 HB.out)
           have q55 : (x7_3 : Int) ≤ ((x5_2.length : Int) : Int) := od
           obtain ⟨i055, hi055, _, hsz55, _⟩ := info_parts info98
           have hcut55 := cut_to (P := Tryz.prog) 78 98 .i64 Tryz.underlying78 hi055 Ao48 x5_2.length co48 x7_3 (od) q55 (Kd.R_reads' HO_5.out).2.1
           have hr55 := Kd.R_take (m := (x7_3 : Int).toNat) HO_5.out (by omega)
           have hy55 : y469.length = (x7_3 : Int).toNat := (by rw [Ny469.out, List.length_take]; omega)
           rw [← Ny469.out] at hr55
           rw [← hy55] at hr55 hcut55
           clear hy55 hi055 hsz55 HO_5
           have HO471 := Aside0.mk hr55
           clear hr55
           replace q55 := eq_true q55
           have p472 : 0 ≤ (x6_2 : Int) := od
           have q472 : x6_2 < (l0.length : Int) := od
           obtain ⟨ad472, e472, hx472_0, hx472_1⟩ := at_T98 HR0.out x6_2 p472 q472
           have hw472_1 := hx472_1
           have hw472_0 := hx472_0
           cases e472
           replace hx472_0 := kc HB hx472_0
           replace hx472_1 := kc HB hx472_1
           replace p472 := eq_true p472
           replace q472 := eq_true q472
           refine start_ (n := 12) (S := fun w' => w'.cell? (ad472.add ((x6_2).toNat * 2)) = some (.string ((rd_T98 l0 x6_2).f0)) ∧ w'.cell? ⟨(ad472.add ((x6_2).toNat * 2)).block, (ad472.add ((x6_2).toNat * 2)).off + 1, none⟩ = some (.string ((rd_T98 l0 x6_2).f1))) (ds := []) _ (by kernel_rfl) rfl rfl ⟨(kc HB hw472_0), (kc HB hw472_1)⟩ (fun hHeld => ?_); refine with_tabW r03_Canon.tab18 r03_Canon.bits18 (fun HT_ HW_ => ?_)
           generalize w53.drew = w54 at HO468 HR465 HB HO471 hx472_0 hx472_1 hHeld ⊢
           refine p1 0 (some 71) ?_
           refine p1 1 (some 72) ?_
           refine p1 2 (some 73) ?_
           refine p1 3 (some 74) ?_
           refine p1 4 (some 75) ?_
           refine p1 5 (some 76) ?_
           refine p1 9 (some 80) ?_
           refine t1 6 (some 77) rfl rfl hHeld (Or.inl ⟨by rfl, by rintro w' ⟨s0, s1⟩; go_simp; with_reducible rfl⟩) ?_
           refine o1 7 (some 78) rfl rfl (fun K hK => ?_)
           refine value_ (w1 := ?_) (v := ?_) (by rfl) rfl ?_ ?_
           rotate_left 2
           ·
            go_simp
            constructor
            ·
             rfl
            ·
             rfl
           refine hK.out _ _ ⟨(World.cell?_alloc_lt _ _ _ (World.block_lt_of_cell? _ _ ((kc HB hw472_0)))).trans ((kc HB hw472_0)), (World.cell?_alloc_lt _ _ _ (World.block_lt_of_cell? _ _ ((kc HB hw472_1)))).trans ((kc HB hw472_1))⟩ (fun hHeld => ?_)
           clear hK K
           refine norm_ (a' := ?_) ?_ ?_
           rotate_left
           ·
            show Act.put _ (some 78) _ = _
            simp only [Act.put, List.setIfInBounds_toArray, List.set_cons_zero, List.set_cons_succ, i64_w, i32_w]
            rfl
           refine o1 8 (some 79) rfl rfl (fun K hK => ?_)
           refine Kd.R_append_step k98 (w0 := w) w.heap.size (by rfl) (.tmp 73) (.tmp 78) 78 98 (.agg #[(.string ⟨#[]⟩), (.string ⟨#[]⟩)]) 32 rfl Tryz.underlying78 info98 rfl (by decide) (by omega) (.slice Ao48 y469.length co48) y469 (⟨(rd_T98 l0 x6_2).f0, (rd_T98 l0 x6_2).f1⟩ : S98) [.string ((rd_T98 l0 x6_2).f0), .string ((rd_T98 l0 x6_2).f1)] (fun k_ => some k_ ≠ (v467 : Value).ownBlock) (fun _ => False) rfl rfl ?aP (fun _ hk => hk.elim) ?aF ?aO ?aB ?aS ?aL ?_
           (case aP => exact k98_mkM _ _ _ (⟨(rd_T98 l0 x6_2).f0, (rd_T98 l0 x6_2).f1⟩ : S98))
           (case aB => exact (uW HB.out))
           (case aF => exact (fun k_ hk => Kd.fresh' (Kd.R_lt (uR HO468.out)) k_ hk))
           (case aO => exact (by exact uR <| Kd.R_mono HO471.out (fun _ hk => hk.2)))
           (case aS => exact (below_size (uW HB.out)))
           (case aL => have := LMc45.out; omega)
           intro v474 w56 ho hb hg hat
           rw [← Ny473.out] at ho
           replace HO468 := Aside0.mk (Kd.R_after (ok := (fun _ => True)) (by exact uR <| Kd.R_mono HO468.out (fun _ hk => ⟨trivial, by first | exact hk | (revert hk; cases Ao48 <;> exact id)⟩)) hg hat)
           replace HB := Aside0.mk (hb)
           have HO475 := Aside0.mk (ho)
           clear HO471
           clear ho hb hg hat
           obtain ⟨Ao58, co58, eo58⟩ := Kd.R_slice HO468.out
           (first | subst eo58 | (injection eo58 with f1_ f2_ f3_; have f4_ := f1_.symm; have f5_ := f3_.symm; clear f1_ f2_ f3_; subst f4_; subst f5_))
           refine hK.out _ _ ⟨(kc HB hw472_0), (kc HB hw472_1)⟩ (fun hHeld => ?_)
           clear hK K
           refine norm_ (a' := ?_) ?_ ?_
           rotate_left
           ·
            show Act.put _ (some 79) _ = _
            simp only [Act.put, List.setIfInBounds_toArray, List.set_cons_zero, List.set_cons_succ, i64_w, i32_w]
            rfl
           refine o1 10 (some 81) rfl rfl (fun K hK => ?_)
           refine Kd.R_append_rows_step k98 (w0 := w) w.heap.size (by rfl) (.tmp 79) (.tmp 80) 78 98 (.agg #[(.string ⟨#[]⟩), (.string ⟨#[]⟩)]) 32 rfl Tryz.underlying78 info98 rfl (by decide) (by omega) v474 y473 y466 _ _ _ (fun k_ => some k_ ≠ (.slice Ao58 y466.length co58 : Value).ownBlock) (fun _ => False) rfl rfl ?aO ?aR (fun _ _ h => h) (fun _ h => h.elim) ?aF ?aB ?aS ?aL ?_
           (case aR => exact uC <| (Kd.R_reads' HO468.out).2.2)
           (case aB => exact (uW HB.out))
           (case aF => exact (fun k_ hk => Kd.fresh' (Kd.R_lt (uR HO468.out)) k_ hk))
           (case aO => exact (uR HO475.out))
           (case aS => exact (below_size (uW HB.out)))
           (case aL => have := LMc46.out; omega)
           intro v477 w57 ho hb hg hat
           rw [← Ny476.out] at ho
           replace HO468 := Aside0.mk (Kd.R_after (ok := (fun _ => True)) (uR HO468.out) hg hat)
           replace HB := Aside0.mk (hb)
           have HO478 := Aside0.mk (ho)
           clear HO475
           clear ho hb hg hat
           refine hK.out _ _ ⟨(kc HB hw472_0), (kc HB hw472_1)⟩ (fun hHeld => ?_)
           clear hK K
           refine norm_ (a' := ?_) ?_ ?_
           rotate_left
           ·
            show Act.put _ (some 81) _ = _
            simp only [Act.put, List.setIfInBounds_toArray, List.set_cons_zero, List.set_cons_succ, i64_w, i32_w]
            rfl
           refine p1 11 (some 5) ?_
           refine done_ (done_of HT_.out (by kernel_rfl)) ?_
           try go_wp2
           go_roundg k3
           case measure => have := HK1.out; have := HK2.out; have := HK3.out; omega
           case rel => exact ⟨(y476), (wrap64 (x6_2 + 1)), rs_, H', ⟨by have := HK1.out; have := HK2.out; have := HK3.out; omega⟩, ⟨by exact uR <| Kd.R_mono HO478.out (fun _ hk => trivial)⟩, ⟨uW HB.out⟩⟩
       ·
        rw [if_neg c9] at H
        have c9b0 : decide (x6_2 < (l0.length : Int)) = false := decide_eq_false c9
        clear c9
        simp only [Option.some.injEq, Prod.mk.injEq] at H
        obtain ⟨rfl, rfl⟩ := H
        go_wp2
        go_ret2
        exact ⟨_, re_, uR HO_5.out, uW HB.out⟩
def r03_Parse.l0 : Nat → List (S98) → List ByteArray → Int → Option ((List (S98)) × Int)
 | 0, _, _, _ => none
 | k + 1, x4, x5, x6 => if x6 < (x5.length : Int) then (if 0 ≤ x6 then ((r02_Split.f k (rdOf ByteArray.empty x5 x6) 61).bind fun t487 => (if (t487.length : Int) < 2 then (some (([] : List (S98)), 2)) else (if 0 < (t487.length : Int) then (if 1 ≤ (t487.length : Int) then ((r02_Join.f k (⟨#[61]⟩ : ByteArray) (t487.drop 1)).bind fun t495 => (if x4.length < 4398046511104 then (r03_Parse.l0 k (x4 ++ [(⟨rdOf ByteArray.empty t487 0, t495⟩ : S98)]) x5 (wrap64 (x6 + 1))) else (none))) else (none)) else (none)))) else (none)) else ((r03_Canon.f k x4).bind fun bt482 => (some (bt482.1, bt482.2)))
def r03_Parse.f (k : Nat) (a0 : ByteArray) : Option ((List (S98)) × Int) := if a0.toList = ([] : List UInt8) then (some (([] : List (S98)), 0)) else ((r02_Split.f k a0 44).bind fun t479 => (r03_Parse.l0 k ([] : List (S98)) t479 0))
theorem r03_Parse.mono_l : ∀ k, (∀ y0 y1 y2, LeC (r03_Parse.l0 k y0 y1 y2) (r03_Parse.l0 (k + 1) y0 y1 y2))
 | 0 => fun _ _ _ => ⟨fun r h => by simp [r03_Parse.l0] at h⟩
 | k + 1 => by have ih0 := r03_Parse.mono_l k; exact fun _ _ _ => by unfold r03_Parse.l0; exact lm
theorem r03_Parse.mono : ∀ a0 k, LeO (r03_Parse.f k a0) (r03_Parse.f (k + 1) a0) := by
 intro a0 k
 have ih0 := r03_Parse.mono_l k
 unfold r03_Parse.f
 exact lo
instance r03_Parse.mI {a0 k} : LeC (r03_Parse.f k a0) (r03_Parse.f (k + 1) a0) := ⟨r03_Parse.mono _ _⟩
def r03_Parse.T11 : Bool × List (List Nat × List Nat) := (true, [([], []), ([], []), ([1], [1]), ([2], [2]), ([], []), ([4], [4]), ([5], [5]), ([3, 6], [3, 6]), ([7], [7]), ([0, 8, 6], [0, 8]), ([9, 9, 0, 1, 2, 3, 4, 5, 6, 7, 8, 9], [0, 9])])
def r03_Parse.B11 : List Nat := [0, 0, 2, 6, 0, 16, 48, 126, 254, 511, 1023]
theorem r03_Parse.tab11 : rtab .any (opsOf Tryz.f61 11) = r03_Parse.T11 := by kernel_rfl
theorem r03_Parse.bits11 : waitsOk r03_Parse.T11.2 r03_Parse.B11 = true := by kernel_rfl
theorem r03_Parse.calls (k : Nat) (a0 : ByteArray) (r1 : List (S98)) (r2 : Int) (w : World) (h : r03_Parse.f k a0 = some (r1, r2)) :
 Calls Tryz.prog 61 #[.string a0] w fun e w' => ∃ v0_ : Value, e = .returned (.tuple #[v0_, .int .i64 r2]) ∧ Kd.R k98 98 w' w.heap.size (fun _ => True) v0_ r1 ∧ Below w.heap.size w w' := by
 have hu98 := Tryz.underlying98
 have HB := Aside0.mk (Below.refl w.heap.size w)
 have H : (if a0.toList = ([] : List UInt8) then (some (([] : List (S98)), 0)) else ((r02_Split.f k a0 44).bind fun t479 => (r03_Parse.l0 k ([] : List (S98)) t479 0))) = some (r1, r2) := h
 clear h
 by_cases c2 : a0.toList = ([] : List UInt8)
 ·
  rw [if_pos c2] at H
  have c2b0 : (a0.toList == ([] : List UInt8)) = true := beq_iff_eq.mpr c2
  have c2b1 : (a0.toList != ([] : List UInt8)) = false := bne_eq_false_iff_eq.mpr c2
  clear c2
  simp only [Option.some.injEq, Prod.mk.injEq] at H
  obtain ⟨rfl, rfl⟩ := H
  go_enter Tryz.func61, Tryz.ntmps61
  go_wp2
  go_ret2
  exact ⟨_, re_, nl_, uW HB.out⟩
 ·
  rw [if_neg c2] at H
  have c2b0 : (a0.toList == ([] : List UInt8)) = false := beq_eq_false_iff_ne.mpr c2
  have c2b1 : (a0.toList != ([] : List UInt8)) = true := bne_iff_ne.mpr c2
  obtain ⟨t479, A3, H⟩ := bs H
  try dsimp only at H
  have H' := Aside0.mk H
  clear H
  go_enter Tryz.func61, Tryz.ntmps61
  go_wp2_with (first | (refine gL (some 11) rfl Tryz.func41 #[.string a0, .int .u8 44] ?_; (with_reducible refine (r02_Split.calls k a0 44 t479 _ A3.out).mono ?_); rintro e w4 ⟨v480, rfl, ho0, hb⟩; refine ⟨_, rfl, ?_⟩; have HO481 := Aside0.mk (Kd.R_lower ho0 (below_size (uW HB.out))); replace HB := cW HB hb; (try clear hb); (try clear ho0)))
  (try simp only [Act.put, List.setIfInBounds_toArray, List.set_cons_zero, List.set_cons_succ])
  go_loopg [4, 6] k (fun kq v4 v6 w' => ∃ (x4_1 : List (S98)) (x6_1 : Int), v6 = .int .i64 x6_1 ∧ Aside0 (r03_Parse.l0 kq x4_1 t479 x6_1 = some (r1, r2)) ∧ Aside0 (kq ≤ k) ∧ Aside0 (Kd.R k98 98 w' w.heap.size (fun _ => True) v4 x4_1) ∧ Aside0 (Kd.R Kd.string 9 w' w.heap.size (fun _ => True) v480 t479) ∧ Aside0 (Below w.heap.size w w'))
  case atStart => exact ⟨(([] : List (S98))), (0), rs_, H', ⟨Nat.le_refl _⟩, ⟨nl_⟩, ⟨uR HO481.out⟩, ⟨uW HB.out⟩⟩
  case round =>
   clear H'
   try clear c2
   try clear c2b0
   try clear c2b1
   try clear p2
   try clear c4
   obtain ⟨x4_1, x6_1, rfl, HA, HK1, HO_4, HO_5, HB⟩ := hrel
   cases gk with
   | zero => exact absurd HA.out (by simp [r03_Parse.l0])
   | succ k1 =>
    have H := HA.out
    clear HA
    simp only [r03_Parse.l0] at H
    by_cases c5 : x6_1 < (t479.length : Int)
    ·
     rw [if_pos c5] at H
     have c5b0 : decide (x6_1 < (t479.length : Int)) = true := decide_eq_true c5
     clear c5
     obtain ⟨c6b0, H⟩ := gdd H
     obtain ⟨t487, A7, H⟩ := bs H
     try dsimp only at H
     by_cases c8 : (t487.length : Int) < 2
     ·
      rw [if_pos c8] at H
      have c8b0 : decide ((t487.length : Int) < 2) = true := decide_eq_true c8
      have c8b1 : decide (t487.length < 2) = true := decide_eq_true (by omega)
      clear c8
      simp only [Option.some.injEq, Prod.mk.injEq] at H
      obtain ⟨rfl, rfl⟩ := H
      obtain ⟨Ao9, co9, eo9⟩ := Kd.R_slice HO_5.out
      subst eo9
      have p486 : 0 ≤ (x6_1 : Int) := od
      have q486 : x6_1 < (t479.length : Int) := od
      obtain ⟨ad486, e486, hx486_0⟩ := Kd.at_string (Kd.R_reads' HO_5.out).2.2 x6_1 p486 q486
      cases e486
      replace p486 := eq_true p486
      replace q486 := eq_true q486
      go_wp2_with (first | (refine gL (some 22) rfl Tryz.func41 #[.string (rdOf ByteArray.empty t479 x6_1), .int .u8 61] ?_; (with_reducible refine (r02_Split.calls k1 (rdOf ByteArray.empty t479 x6_1) 61 t487 _ A7.out).mono ?_); rintro e w10 ⟨v488, rfl, ho0, hb⟩; refine ⟨_, rfl, ?_⟩; replace HO_4 := cR HO_4 hb; have HO489 := Aside0.mk (Kd.R_lower (Kd.R_new' ho0 (Kd.R_lt (uR HO_5.out))) (below_size (uW HB.out))); replace HO_5 := Aside0.mk (Kd.R_elder' (uR HO_5.out) (Kd.R_base ho0) hb); replace HB := cW HB hb; (try clear hb); (try clear ho0); obtain ⟨Ao11, co11, eo11⟩ := Kd.R_slice HO489.out; subst eo11))
      go_ret2
      exact ⟨_, re_, nl_, uW HB.out⟩
     ·
      rw [if_neg c8] at H
      have c8b0 : decide ((t487.length : Int) < 2) = false := decide_eq_false c8
      have c8b1 : decide (t487.length < 2) = false := decide_eq_false (by omega)
      clear c8
      obtain ⟨c12, H⟩ := gd H
      have c12b0 : decide (0 < (t487.length : Int)) = true := decide_eq_true c12
      have c12b1 : decide (0 < t487.length) = true := decide_eq_true (by omega)
      clear c12
      obtain ⟨c13, H⟩ := gd H
      have c13b0 := eq_true c13
      have c13b1 : decide (1 ≤ (t487.length : Int)) = true := decide_eq_true c13
      clear c13
      obtain ⟨y491, hy491⟩ : ∃ y_ : List ByteArray, y_ = (t487.drop 1) := ⟨_, rfl⟩
      replace H : ((r02_Join.f k1 (⟨#[61]⟩ : ByteArray) y491).bind fun t495 => (if x4_1.length < 4398046511104 then (r03_Parse.l0 k1 (x4_1 ++ [(⟨rdOf ByteArray.empty t487 0, t495⟩ : S98)]) t479 (wrap64 (x6_1 + 1))) else (none))) = some (r1, r2) := by first | (rw [hy491]; with_reducible exact H) | (have H2_ := (Option.bind_some _ _).symm.trans H; rw [hy491]; with_reducible exact H2_) | (have H2_ := (Option.bind_some _ _).symm.trans H; with_reducible exact H2_) | with_reducible exact H | (rw [hy491]; exact H) | exact H
      have Ny491 := Aside0.mk hy491
      clear hy491
      obtain ⟨t495, A14, H⟩ := bs H
      try dsimp only at H
      obtain ⟨c15, H⟩ := gd H
      have LMc15 := Aside0.mk c15
      clear c15
      obtain ⟨y496, hy496⟩ : ∃ y_ : List (S98), y_ = (x4_1 ++ [(⟨rdOf ByteArray.empty t487 0, t495⟩ : S98)]) := ⟨_, rfl⟩
      replace H : (r03_Parse.l0 k1 y496 t479 (wrap64 (x6_1 + 1))) = some (r1, r2) := by first | (rw [hy496]; with_reducible exact H) | (have H2_ := (Option.bind_some _ _).symm.trans H; rw [hy496]; with_reducible exact H2_) | (have H2_ := (Option.bind_some _ _).symm.trans H; with_reducible exact H2_) | with_reducible exact H | (rw [hy496]; exact H) | exact H
      have Ny496 := Aside0.mk hy496
      clear hy496
      have H' := Aside0.mk H
      clear H
      obtain ⟨Ao16, co16, eo16⟩ := Kd.R_slice HO_5.out
      subst eo16
      have p486 : 0 ≤ (x6_1 : Int) := od
      have q486 : x6_1 < (t479.length : Int) := od
      obtain ⟨ad486, e486, hx486_0⟩ := Kd.at_string (Kd.R_reads' HO_5.out).2.2 x6_1 p486 q486
      cases e486
      replace p486 := eq_true p486
      replace q486 := eq_true q486
      try go_wp2_with (first | (refine gL (some 22) rfl Tryz.func41 #[.string (rdOf ByteArray.empty t479 x6_1), .int .u8 61] ?_; (with_reducible refine (r02_Split.calls k1 (rdOf ByteArray.empty t479 x6_1) 61 t487 _ A7.out).mono ?_); rintro e w17 ⟨v488, rfl, ho0, hb⟩; refine ⟨_, rfl, ?_⟩; replace HO_4 := cR HO_4 hb; have HO489 := Aside0.mk (Kd.R_lower (Kd.R_new' ho0 (Kd.R_lt (uR HO_5.out))) (below_size (uW HB.out))); replace HO_5 := Aside0.mk (Kd.R_elder' (uR HO_5.out) (Kd.R_base ho0) hb); replace HB := cW HB hb; (try clear hb); (try clear ho0); obtain ⟨Ao18, co18, eo18⟩ := Kd.R_slice HO489.out; subst eo18))
      replace HO_4 := Aside0.mk (Kd.R_drew HO_4.out)
      replace HO_5 := Aside0.mk (Kd.R_drew HO_5.out)
      replace HO489 := Aside0.mk (Kd.R_drew HO489.out)
      replace HB := Aside0.mk (below_drew1 HB.out)
      have p490 : 0 ≤ (0 : Int) := (by omega)
      have q490 : 0 < (t487.length : Int) := od
      obtain ⟨ad490, e490, hx490_0⟩ := Kd.at_string (Kd.R_reads' HO489.out).2.2 0 p490 q490
      cases e490
      have qi490 : (0 < t487.length) = True := eq_true (by omega)
      (try rw [show ((0 : Int)).toNat = 0 from rfl] at hx490_0)
      (try rw [Addr.add_zero'] at hx490_0)
      replace p490 := eq_true p490
      replace q490 := eq_true q490
      have q20 : (1 : Int) ≤ ((t487.length : Int) : Int) := od
      obtain ⟨i020, hi020, _, hsz20, _⟩ := info_parts info9
      have hroom20 : t487.length ≤ co18 := (Kd.R_reads' HO489.out).2.1
      have hC20 : Kd.C Kd.string _ (some ad490) t487.length t487 := (Kd.R_reads' HO489.out).2.2
      have hcut20 := cut_from (P := Tryz.prog) 52 9 .i64 Tryz.underlying52 hi020 1 hsz20 (some ad490) t487.length co18 1 (by omega) q20
      have hr20 := Kd.C_drop (m := (1 : Int).toNat) (c := co18) hC20 (by omega) hroom20
      obtain ⟨A20, hA20⟩ : ∃ A1, A1 = (if co18 = (1 : Int).toNat then (some ad490) else ((some ad490) : Option Addr).map (·.add ((1 : Int).toNat * 1))) := ⟨_, rfl⟩
      obtain ⟨c20, hc20⟩ : ∃ c1, c1 = co18 - (1 : Int).toNat := ⟨_, rfl⟩
      have hy20 : y491.length = t487.length - (1 : Int).toNat := (by rw [Ny491.out, List.length_drop] <;> omega)
      rw [show (t487).drop (1 : Int).toNat = y491 from Ny491.out.symm] at hr20
      replace hr20 : Kd.C Kd.string _ A20 y491.length y491 := (by rw [hA20]; exact hr20)
      rw [← hy20, ← hA20, ← hc20] at hcut20
      have HR494 := Aside0.mk hr20
      have HC494 := Aside0.mk (show y491.length ≤ c20 from by rw [hy20, hc20]; exact Nat.sub_le_sub_right hroom20 _)
      clear hr20 hC20 hroom20 hi020 hsz20 hc20
      have KY20 := Aside0.mk hy20
      have KA20 := Aside0.mk hA20
      clear hy20 hA20
      have KL20 := Aside0.mk (show 1 ≤ t487.length from by omega)
      replace q20 := eq_true q20
      refine start_ (n := 11) (S := fun w' => w'.cell? ad490 = some (.string (rdOf ByteArray.empty t487 0))) (ds := [8, 9]) _ (by kernel_rfl) rfl rfl (hx490_0) (fun hHeld => ?_); refine with_tabW r03_Parse.tab11 r03_Parse.bits11 (fun HT_ HW_ => ?_)
      generalize w17.drew = w19 at HO_4 HO_5 HO489 HB HR494 hx490_0 hHeld ⊢
      refine p1 0 (some 26) ?_
      refine p1 1 (some 27) ?_
      refine p1 2 (some 28) ?_
      refine p1 4 (some 30) ?_
      refine p1 5 (some 31) ?_
      refine t1 3 (some 29) rfl rfl hHeld (Or.inl ⟨by rfl, by intro w' s0; go_simp; with_reducible rfl⟩) ?_
      refine o1 6 (some 32) rfl rfl (fun K hK => ?_)
      refine gS Tryz.func35 #[.string (⟨#[61]⟩ : ByteArray), .slice A20 y491.length c20] ?_
      with_reducible refine (r02_Join.calls k1 (⟨#[61]⟩ : ByteArray) _ _ y491 t495 _ ?side1 ?side2 A14.out).mono ?_
      (case side1 => repeat (first | exact (by repeat (first | (with_reducible exact HR494.out) | (with_reducible refine Kd.C_alloc ?_ _) | (with_reducible refine Kd.C_drewN ?_ _) | (with_reducible refine Kd.C_drew ?_) | exact HR494.out)) | (with_reducible refine Kd.C_alloc ?_ _) | (with_reducible refine Kd.C_drewN ?_ _) | (with_reducible refine Kd.C_drew ?_)))
      (case side2 => exact HC494.out)
      rintro e w' ⟨rfl, ⟨nd, rfl⟩⟩
      refine ⟨_, rfl, ?_⟩
      refine hK.out _ _ (hHeld) (fun hHeld => ?_)
      clear hK K
      refine norm_ (a' := ?_) ?_ ?_
      rotate_left
      ·
       show Act.put _ (some 32) _ = _
       simp only [Act.put, List.setIfInBounds_toArray, List.set_cons_zero, List.set_cons_succ, i64_w, i32_w]
       rfl
      refine p1 7 (some 33) ?_
      refine l1_ 8 (some 34) rfl rfl (fun K hK => ?_)
      refine value_ (w1 := ?_) (v := ?_) (by rfl) rfl ?_ ?_
      rotate_left 2
      ·
       go_simp
       constructor
       ·
        rfl
       ·
        rfl
      refine hK.out _ _ ?_
      clear hK K
      refine norm_ (a' := ?_) ?_ ?_
      rotate_left
      ·
       show Act.put _ (some 34) _ = _
       simp only [Act.put, List.setIfInBounds_toArray, List.set_cons_zero, List.set_cons_succ, i64_w, i32_w]
       rfl
      refine l1_ 9 (some 35) rfl rfl (fun K hK => ?_)
      refine Kd.R_append_step k98 (w0 := w) w.heap.size (by rfl) (.tmp 26) (.tmp 34) 78 98 (.agg #[(.string ⟨#[]⟩), (.string ⟨#[]⟩)]) 32 rfl Tryz.underlying78 info98 rfl (by decide) (by omega) u4 x4_1 (⟨rdOf ByteArray.empty t487 0, t495⟩ : S98) [.string (rdOf ByteArray.empty t487 0), .string t495] (fun _ => True) (fun _ => False) rfl rfl ?aP (fun _ hk => hk.elim) ?aF ?aO ?aB ?aS ?aL ?_
      (case aP => exact k98_mkM _ _ _ (⟨rdOf ByteArray.empty t487 0, t495⟩ : S98))
      (case aB => exact (uW HB.out))
      (case aF => exact (fun _ _ => trivial))
      (case aO => exact (uR HO_4.out))
      (case aS => exact (below_size (uW HB.out)))
      (case aL => have := LMc15.out; omega)
      intro v497 w21 ho hb hg hat
      rw [← Ny496.out] at ho
      replace HO_5 := Aside0.mk (Kd.R_over' (uR HO_5.out) (Kd.R_typed (uR HO_4.out)) (by decide) hg)
      replace HB := Aside0.mk (hb)
      replace HR494 := Aside0.mk ((show Kd.C Kd.string w21 A20 y491.length y491 from by rw [Ny491.out, KA20.out]; exact Kd.C_drop (m := 1) (c := co18) ((Kd.R_reads' (Kd.R_over' (uR HO489.out) (Kd.R_typed (uR HO_4.out)) (by decide) hg)).2.2) KL20.out ((Kd.R_reads' (Kd.R_over' (uR HO489.out) (Kd.R_typed (uR HO_4.out)) (by decide) hg)).2.1)))
      replace HO489 := Aside0.mk (Kd.R_over' (uR HO489.out) (Kd.R_typed (uR HO_4.out)) (by decide) hg)
      have HO498 := Aside0.mk (ho)
      clear HO_4
      clear ho hb hg hat
      refine hK.out _ _ ?_
      clear hK K
      refine norm_ (a' := ?_) ?_ ?_
      rotate_left
      ·
       show Act.put _ (some 35) _ = _
       simp only [Act.put, List.setIfInBounds_toArray, List.set_cons_zero, List.set_cons_succ, i64_w, i32_w]
       rfl
      refine p1 10 (some 4) ?_
      refine done_ (done_of HT_.out (by kernel_rfl)) ?_
      try go_wp2
      go_roundg k1
      case measure => have := HK1.out; omega
      case rel => exact ⟨(y496), (wrap64 (x6_1 + 1)), rs_, H', ⟨by have := HK1.out; omega⟩, ⟨uR HO498.out⟩, ⟨by exact uR <| Kd.R_mono HO_5.out (fun _ hk => trivial)⟩, ⟨uW HB.out⟩⟩
    ·
     rw [if_neg c5] at H
     have c5b0 : decide (x6_1 < (t479.length : Int)) = false := decide_eq_false c5
     clear c5
     obtain ⟨⟨t482, t483⟩, A22, H⟩ := bs H
     try dsimp only at H
     simp only [Option.some.injEq, Prod.mk.injEq] at H
     obtain ⟨rfl, rfl⟩ := H
     obtain ⟨Ao23, co23, eo23⟩ := Kd.R_slice HO_5.out
     subst eo23
     obtain ⟨Ao24, co24, eo24⟩ := Kd.R_slice HO_4.out
     subst eo24
     go_wp2_with (first | (refine gL (some 37) rfl Tryz.func78 #[.slice Ao24 x4_1.length co24] ?_; (with_reducible refine (r03_Canon.calls k1 _ _ x4_1 t482 t483 _ ?side1 ?side2 A22.out).mono ?_); (case side1 => exact uC <| (Kd.R_reads' HO_4.out).2.2); (case side2 => exact (Kd.R_reads' HO_4.out).2.1); rintro e w25 ⟨v484, rfl, ho0, hb⟩; refine ⟨_, rfl, ?_⟩; replace HO_5 := cR HO_5 hb; have HO485 := Aside0.mk (Kd.R_lower (Kd.R_new' ho0 (Kd.R_lt (uR HO_4.out))) (below_size (uW HB.out))); replace HO_4 := Aside0.mk (Kd.R_elder' (uR HO_4.out) (Kd.R_base ho0) hb); replace HB := cW HB hb; (try clear hb); (try clear ho0)))
     go_ret2
     exact ⟨_, re_, by exact uR <| Kd.R_mono HO485.out (fun _ hk => trivial), uW HB.out⟩
def r03_Text.l0 : Nat → List (S98) → List ByteArray → Int → Option (ByteArray)
 | 0, _, _, _ => none
 | k + 1, x0, x3, x4 => if x4 < (x0.length : Int) then (if 0 ≤ x4 then (if ((rd_T98 x0 x4).f0).size + 1 ≤ 9223372036854775807 then (if (((rd_T98 x0 x4).f0) ++ (⟨#[61]⟩ : ByteArray)).size + ((rd_T98 x0 x4).f1).size ≤ 9223372036854775807 then (if x3.length < 8796093022208 then (r03_Text.l0 k x0 (x3 ++ [(((rd_T98 x0 x4).f0) ++ (⟨#[61]⟩ : ByteArray)) ++ ((rd_T98 x0 x4).f1)]) (wrap64 (x4 + 1))) else (none)) else (none)) else (none)) else (none)) else ((r02_Join.f k (⟨#[44]⟩ : ByteArray) x3).bind fun t504 => (some t504))
def r03_Text.f (k : Nat) (l0 : List (S98)) : Option (ByteArray) := r03_Text.l0 k l0 ([] : List ByteArray) 0
theorem r03_Text.mono_l : ∀ k, (∀ y0 y1 y2, LeC (r03_Text.l0 k y0 y1 y2) (r03_Text.l0 (k + 1) y0 y1 y2))
 | 0 => fun _ _ _ => ⟨fun r h => by simp [r03_Text.l0] at h⟩
 | k + 1 => by have ih0 := r03_Text.mono_l k; exact fun _ _ _ => by unfold r03_Text.l0; exact lm
theorem r03_Text.mono : ∀ a0 k, LeO (r03_Text.f k a0) (r03_Text.f (k + 1) a0) := by
 intro a0 k
 have ih0 := r03_Text.mono_l k
 unfold r03_Text.f
 exact lo
instance r03_Text.mI {a0 k} : LeC (r03_Text.f k a0) (r03_Text.f (k + 1) a0) := ⟨r03_Text.mono _ _⟩
def r03_Text.T5 : Bool × List (List Nat × List Nat) := (true, [([], []), ([], []), ([], []), ([1, 2], [1, 2]), ([3], [3]), ([4], [4]), ([5], [5]), ([], []), ([], []), ([7, 8], [7, 8]), ([9], [9]), ([10], [10]), ([6, 11], [6, 11]), ([12], [12]), ([0, 13], [0, 13]), ([14, 14, 0, 1, 2, 3, 4, 5, 6, 7, 8, 9, 10, 11, 12, 13, 14], [0, 14])])
def r03_Text.B5 : List Nat := [0, 0, 0, 6, 14, 30, 62, 0, 0, 384, 896, 1920, 4094, 8190, 16383, 32767]
theorem r03_Text.tab5 : rtab .any (opsOf Tryz.f62 5) = r03_Text.T5 := by kernel_rfl
theorem r03_Text.bits5 : waitsOk r03_Text.T5.2 r03_Text.B5 = true := by kernel_rfl
theorem r03_Text.calls (k : Nat) (A0 : Option Addr) (c0 : Nat) (l0 : List (S98)) (r : ByteArray) (w : World) (hr0 : Kd.C k98 w A0 l0.length l0) (hc0 : l0.length ≤ c0) (h : r03_Text.f k l0 = some r) :
 Calls Tryz.prog 62 #[.slice A0 l0.length c0] w fun e w' => e = .returned (.string r) ∧ Below w.heap.size w w' := by
 have HR0 := Aside0.mk hr0
 have HC0 := Aside0.mk hc0
 clear hr0 hc0
 have HB := Aside0.mk (Below.refl w.heap.size w)
 have H : (r03_Text.l0 k l0 ([] : List ByteArray) 0) = some r := h
 clear h
 have H' := Aside0.mk H
 clear H
 go_enter Tryz.func62, Tryz.ntmps62
 go_wp2
 go_loopg [3, 4] k (fun kq v3 v4 w' => ∃ (x3_1 : List ByteArray) (x4_1 : Int), v4 = .int .i64 x4_1 ∧ Aside0 (r03_Text.l0 kq l0 x3_1 x4_1 = some r) ∧ Aside0 (kq ≤ k) ∧ Aside0 (Kd.R Kd.string 9 w' w.heap.size (fun _ => True) v3 x3_1) ∧ Aside0 (Below w.heap.size w w'))
 case atStart => exact ⟨(([] : List ByteArray)), (0), rs_, H', ⟨Nat.le_refl _⟩, ⟨nl_⟩, ⟨uW HB.out⟩⟩
 case round =>
  clear H'
  obtain ⟨x3_1, x4_1, rfl, HA, HK1, HO_3, HB⟩ := hrel
  cases gk with
  | zero => exact absurd HA.out (by simp [r03_Text.l0])
  | succ k1 =>
   have H := HA.out
   clear HA
   simp only [r03_Text.l0] at H
   by_cases c2 : x4_1 < (l0.length : Int)
   ·
    rw [if_pos c2] at H
    have c2b0 : decide (x4_1 < (l0.length : Int)) = true := decide_eq_true c2
    clear c2
    obtain ⟨c3b0, H⟩ := gdd H
    obtain ⟨c4, H⟩ := gd H
    have c4b0 := eq_true c4
    have c4b1 : decide (((rd_T98 l0 x4_1).f0).size + 1 ≤ 9223372036854775807) = true := decide_eq_true c4
    try have c4b2 : (9223372036854775807 < ((rd_T98 l0 x4_1).f0).size + 1) = False := eq_false (Nat.not_lt.2 c4)
    obtain ⟨c5, H⟩ := gd H
    have c5b0 := eq_true c5
    have c5b1 : decide ((((rd_T98 l0 x4_1).f0) ++ (⟨#[61]⟩ : ByteArray)).size + ((rd_T98 l0 x4_1).f1).size ≤ 9223372036854775807) = true := decide_eq_true c5
    try have c5b2 : (9223372036854775807 < (((rd_T98 l0 x4_1).f0) ++ (⟨#[61]⟩ : ByteArray)).size + ((rd_T98 l0 x4_1).f1).size) = False := eq_false (Nat.not_lt.2 c5)
    try have c5b8 := c5b2
    try simp only [ByteArray.size_append] at c5b8
    try have c5b9 := c5b2
    try simp only [ByteArray.size_append, show (⟨#[61]⟩ : ByteArray).size = 1 from rfl] at c5b9
    obtain ⟨c6, H⟩ := gd H
    have LMc6 := Aside0.mk c6
    clear c6
    obtain ⟨y501, hy501⟩ : ∃ y_ : List ByteArray, y_ = (x3_1 ++ [(((rd_T98 l0 x4_1).f0) ++ (⟨#[61]⟩ : ByteArray)) ++ ((rd_T98 l0 x4_1).f1)]) := ⟨_, rfl⟩
    replace H : (r03_Text.l0 k1 l0 y501 (wrap64 (x4_1 + 1))) = some r := by first | (rw [hy501]; with_reducible exact H) | (have H2_ := (Option.bind_some _ _).symm.trans H; rw [hy501]; with_reducible exact H2_) | (have H2_ := (Option.bind_some _ _).symm.trans H; with_reducible exact H2_) | with_reducible exact H | (rw [hy501]; exact H) | exact H
    have Ny501 := Aside0.mk hy501
    clear hy501
    have H' := Aside0.mk H
    clear H
    try go_wp2
    replace HO_3 := Aside0.mk (Kd.R_drew HO_3.out)
    replace HB := Aside0.mk (below_drew1 HB.out)
    have p499 : 0 ≤ (x4_1 : Int) := od
    have q499 : x4_1 < (l0.length : Int) := od
    obtain ⟨ad499, e499, hx499_0, hx499_1⟩ := at_T98 HR0.out x4_1 p499 q499
    have hw499_1 := hx499_1
    have hw499_0 := hx499_0
    cases e499
    replace hx499_0 := kc HB hx499_0
    replace hx499_1 := kc HB hx499_1
    replace p499 := eq_true p499
    replace q499 := eq_true q499
    have p500 : 0 ≤ (x4_1 : Int) := od
    have q500 : x4_1 < (l0.length : Int) := od
    obtain ⟨ad500, e500, hx500_0, hx500_1⟩ := at_T98 HR0.out x4_1 p500 q500
    have hw500_1 := hx500_1
    have hw500_0 := hx500_0
    obtain rfl : ad499 = ad500 := (by injection e500)
    replace hx500_0 := kc HB hx500_0
    replace hx500_1 := kc HB hx500_1
    replace p500 := eq_true p500
    replace q500 := eq_true q500
    refine start_ (n := 16) (S := fun w' => w'.cell? (ad499.add ((x4_1).toNat * 2)) = some (.string ((rd_T98 l0 x4_1).f0)) ∧ w'.cell? ⟨(ad499.add ((x4_1).toNat * 2)).block, (ad499.add ((x4_1).toNat * 2)).off + 1, none⟩ = some (.string ((rd_T98 l0 x4_1).f1)) ∧ w'.cell? (ad499.add ((x4_1).toNat * 2)) = some (.string ((rd_T98 l0 x4_1).f0)) ∧ w'.cell? ⟨(ad499.add ((x4_1).toNat * 2)).block, (ad499.add ((x4_1).toNat * 2)).off + 1, none⟩ = some (.string ((rd_T98 l0 x4_1).f1))) (ds := []) _ (by kernel_rfl) rfl rfl ⟨(kc HB hw499_0), (kc HB hw499_1), (kc HB hw500_0), (kc HB hw500_1)⟩ (fun hHeld => ?_); refine with_tabW r03_Text.tab5 r03_Text.bits5 (fun HT_ HW_ => ?_)
    generalize wr.drew = w7 at HO_3 HB hx499_0 hx499_1 hx500_0 hx500_1 hHeld ⊢
    refine p1 0 (some 11) ?_
    refine p1 1 (some 12) ?_
    refine p1 2 (some 13) ?_
    refine p1 3 (some 14) ?_
    refine p1 4 (some 15) ?_
    refine p1 7 (some 18) ?_
    refine p1 8 (some 19) ?_
    refine p1 9 (some 20) ?_
    refine p1 10 (some 21) ?_
    refine t1 5 (some 16) rfl rfl hHeld (Or.inl ⟨by rfl, by rintro w' ⟨s0, s1, s2, s3⟩; go_simp; with_reducible rfl⟩) ?_
    refine p1 6 (some 17) ?_
    refine t1 11 (some 22) rfl rfl hHeld (Or.inl ⟨by rfl, by rintro w' ⟨s0, s1, s2, s3⟩; go_simp; with_reducible rfl⟩) ?_
    refine p1 12 (some 23) ?_
    refine o1 13 (some 24) rfl rfl (fun K hK => ?_)
    refine value_ (w1 := ?_) (v := ?_) (by rfl) rfl ?_ ?_
    rotate_left 2
    ·
     go_simp
     constructor
     ·
      rfl
     ·
      rfl
    refine hK.out _ _ ⟨(World.cell?_alloc_lt _ _ _ (World.block_lt_of_cell? _ _ ((kc HB hw499_0)))).trans ((kc HB hw499_0)), (World.cell?_alloc_lt _ _ _ (World.block_lt_of_cell? _ _ ((kc HB hw499_1)))).trans ((kc HB hw499_1)), (World.cell?_alloc_lt _ _ _ (World.block_lt_of_cell? _ _ ((kc HB hw500_0)))).trans ((kc HB hw500_0)), (World.cell?_alloc_lt _ _ _ (World.block_lt_of_cell? _ _ ((kc HB hw500_1)))).trans ((kc HB hw500_1))⟩ (fun hHeld => ?_)
    clear hK K
    refine norm_ (a' := ?_) ?_ ?_
    rotate_left
    ·
     show Act.put _ (some 24) _ = _
     simp only [Act.put, List.setIfInBounds_toArray, List.set_cons_zero, List.set_cons_succ, i64_w, i32_w]
     rfl
    refine o1 14 (some 25) rfl rfl (fun K hK => ?_)
    refine Kd.R_append_step Kd.string (w0 := w) w.heap.size (by rfl) (.tmp 11) (.tmp 24) 52 9 (.string ⟨#[]⟩) 16 rfl Tryz.underlying52 info9 rfl (by decide) (by omega) u3 x3_1 ((((rd_T98 l0 x4_1).f0) ++ (⟨#[61]⟩ : ByteArray)) ++ ((rd_T98 l0 x4_1).f1)) [.string ((((rd_T98 l0 x4_1).f0) ++ (⟨#[61]⟩ : ByteArray)) ++ ((rd_T98 l0 x4_1).f1))] (fun _ => True) (fun _ => False) rfl rfl ?aP (fun _ hk => hk.elim) ?aF ?aO ?aB ?aS ?aL ?_
    (case aP => exact rfl)
    (case aB => exact (uW HB.out))
    (case aF => exact (fun _ _ => trivial))
    (case aO => exact (uR HO_3.out))
    (case aS => exact (below_size (uW HB.out)))
    (case aL => have := LMc6.out; omega)
    intro v502 w8 ho hb hg hat
    rw [← Ny501.out] at ho
    replace HB := Aside0.mk (hb)
    have HO503 := Aside0.mk (ho)
    clear HO_3
    clear ho hb hg hat
    refine hK.out _ _ ⟨(kc HB hw499_0), (kc HB hw499_1), (kc HB hw500_0), (kc HB hw500_1)⟩ (fun hHeld => ?_)
    clear hK K
    refine norm_ (a' := ?_) ?_ ?_
    rotate_left
    ·
     show Act.put _ (some 25) _ = _
     simp only [Act.put, List.setIfInBounds_toArray, List.set_cons_zero, List.set_cons_succ, i64_w, i32_w]
     rfl
    refine p1 15 (some 3) ?_
    refine done_ (done_of HT_.out (by kernel_rfl)) ?_
    try go_wp2
    go_roundg k1
    case measure => have := HK1.out; omega
    case rel => exact ⟨(y501), (wrap64 (x4_1 + 1)), rs_, H', ⟨by have := HK1.out; omega⟩, ⟨uR HO503.out⟩, ⟨uW HB.out⟩⟩
   ·
    rw [if_neg c2] at H
    have c2b0 : decide (x4_1 < (l0.length : Int)) = false := decide_eq_false c2
    clear c2
    obtain ⟨t504, A9, H⟩ := bs H
    try dsimp only at H
    obtain rfl := Option.some.inj H
    obtain ⟨Ao10, co10, eo10⟩ := Kd.R_slice HO_3.out
    subst eo10
    go_wp2_with (first | (refine gL (some 27) rfl Tryz.func35 #[.string (⟨#[44]⟩ : ByteArray), .slice Ao10 x3_1.length co10] ?_; (with_reducible refine (r02_Join.calls k1 (⟨#[44]⟩ : ByteArray) _ _ x3_1 t504 _ ?side1 ?side2 A9.out).mono ?_); (case side1 => exact uC <| (Kd.R_reads' HO_3.out).2.2); (case side2 => exact (Kd.R_reads' HO_3.out).2.1); rintro e w' ⟨rfl, ⟨nd, rfl⟩⟩; refine ⟨_, rfl, ?_⟩))
    go_ret
    exact ⟨re_, uW HB.out⟩
def r08_group.f (k : Nat) (a0 : ByteArray) : Option (Int) := (r03_Parse.f k a0).bind fun bt505 => (if bt505.2 = 0 then ((r03_Text.f k bt505.1).bind fun t509 => (if t509.toList = a0.toList then (some 0) else (some 2))) else (some bt505.2))
theorem r08_group.mono : ∀ a0 k, LeO (r08_group.f k a0) (r08_group.f (k + 1) a0) := by
 intro a0 k
 unfold r08_group.f
 exact lo
instance r08_group.mI {a0 k} : LeC (r08_group.f k a0) (r08_group.f (k + 1) a0) := ⟨r08_group.mono _ _⟩
theorem r08_group.calls (k : Nat) (a0 : ByteArray) (r : Int) (w : World) (h : r08_group.f k a0 = some r) :
 Calls Tryz.prog 51 #[.string a0] w fun e w' => e = .returned (.int .i64 r) ∧ Below w.heap.size w w' := by
 have HB := Aside0.mk (Below.refl w.heap.size w)
 have H : ((r03_Parse.f k a0).bind fun bt505 => (if bt505.2 = 0 then ((r03_Text.f k bt505.1).bind fun t509 => (if t509.toList = a0.toList then (some 0) else (some 2))) else (some bt505.2))) = some r := h
 clear h
 obtain ⟨⟨t505, t506⟩, A2, H⟩ := bs H
 try dsimp only at H
 by_cases c3 : t506 = 0
 ·
  rw [if_pos c3] at H
  have c3b0 : (t506 == 0) = true := beq_iff_eq.mpr c3
  have c3b1 : (t506 != 0) = false := bne_eq_false_iff_eq.mpr c3
  clear c3
  obtain ⟨t509, A4, H⟩ := bs H
  try dsimp only at H
  by_cases c5 : t509.toList = a0.toList
  ·
   rw [if_pos c5] at H
   have c5b0 : (t509.toList == a0.toList) = true := beq_iff_eq.mpr c5
   have c5b1 : (t509.toList != a0.toList) = false := bne_eq_false_iff_eq.mpr c5
   clear c5
   obtain rfl := Option.some.inj H
   go_enter Tryz.func51, Tryz.ntmps51
   go_wp2_with (first | (refine gL (some 7) rfl Tryz.func61 #[.string a0] ?_; (with_reducible refine (r03_Parse.calls k a0 t505 t506 _ A2.out).mono ?_); rintro e w6 ⟨v507, rfl, ho0, hb⟩; refine ⟨_, rfl, ?_⟩; have HO508 := Aside0.mk (Kd.R_lower ho0 (below_size (uW HB.out))); replace HB := cW HB hb; (try clear hb); (try clear ho0); obtain ⟨Ao7, co7, eo7⟩ := Kd.R_slice HO508.out; subst eo7) | (refine gL (some 14) rfl Tryz.func62 #[.slice Ao7 t505.length co7] ?_; (with_reducible refine (r03_Text.calls k _ _ t505 t509 _ ?side1 ?side2 A4.out).mono ?_); (case side1 => exact uC <| (Kd.R_reads' HO508.out).2.2); (case side2 => exact (Kd.R_reads' HO508.out).2.1); rintro e w8 ⟨rfl, hb⟩; refine ⟨_, rfl, ?_⟩; replace HO508 := cR HO508 hb; replace HB := cW HB hb; (try clear hb)))
   go_ret
   exact ⟨re_, uW HB.out⟩
  ·
   rw [if_neg c5] at H
   have c5b0 : (t509.toList == a0.toList) = false := beq_eq_false_iff_ne.mpr c5
   have c5b1 : (t509.toList != a0.toList) = true := bne_iff_ne.mpr c5
   obtain rfl := Option.some.inj H
   go_enter Tryz.func51, Tryz.ntmps51
   go_wp2_with (first | (refine gL (some 7) rfl Tryz.func61 #[.string a0] ?_; (with_reducible refine (r03_Parse.calls k a0 t505 t506 _ A2.out).mono ?_); rintro e w9 ⟨v507, rfl, ho0, hb⟩; refine ⟨_, rfl, ?_⟩; have HO508 := Aside0.mk (Kd.R_lower ho0 (below_size (uW HB.out))); replace HB := cW HB hb; (try clear hb); (try clear ho0); obtain ⟨Ao10, co10, eo10⟩ := Kd.R_slice HO508.out; subst eo10) | (refine gL (some 14) rfl Tryz.func62 #[.slice Ao10 t505.length co10] ?_; (with_reducible refine (r03_Text.calls k _ _ t505 t509 _ ?side1 ?side2 A4.out).mono ?_); (case side1 => exact uC <| (Kd.R_reads' HO508.out).2.2); (case side2 => exact (Kd.R_reads' HO508.out).2.1); rintro e w11 ⟨rfl, hb⟩; refine ⟨_, rfl, ?_⟩; replace HO508 := cR HO508 hb; replace HB := cW HB hb; (try clear hb)))
   go_ret
   exact ⟨re_, uW HB.out⟩
 ·
  rw [if_neg c3] at H
  have c3b0 : (t506 == 0) = false := beq_eq_false_iff_ne.mpr c3
  have c3b1 : (t506 != 0) = true := bne_iff_ne.mpr c3
  obtain rfl := Option.some.inj H
  go_enter Tryz.func51, Tryz.ntmps51
  go_wp2_with (first | (refine gL (some 7) rfl Tryz.func61 #[.string a0] ?_; (with_reducible refine (r03_Parse.calls k a0 t505 t506 _ A2.out).mono ?_); rintro e w12 ⟨v507, rfl, ho0, hb⟩; refine ⟨_, rfl, ?_⟩; have HO508 := Aside0.mk (Kd.R_lower ho0 (below_size (uW HB.out))); replace HB := cW HB hb; (try clear hb); (try clear ho0)))
  go_ret
  exact ⟨re_, uW HB.out⟩
theorem r01_Read.wtd {a : Int} (h0 : -9223372036854775808 ≤ a) (h1 : a ≤ 9223372036854775807) : wrap64 (Int.tdiv a 10) = Int.tdiv a 10 := by
 have e : Int.tdiv a 10 = if 0 ≤ a then a / 10 else -((-a) / 10) := by
  split
  ·
   rename_i h; exact Int.tdiv_eq_ediv_of_nonneg h
  ·
   rename_i h
   have h2 : Int.tdiv a 10 = -(Int.tdiv (-a) 10) := by rw [Int.neg_tdiv, Int.neg_neg]
   rw [h2, Int.tdiv_eq_ediv_of_nonneg (by omega)]
 rw [e]
 unfold wrap64
 split <;> omega
mutual
def r01_Read.j0 : Nat → ByteArray → ByteArray → Bool → Option (Int × Int)
 | 0, _, _, _ => none
 | k + 1, x0, x4, x17 => if x17 = true then (if 1 ≤ (x4.size : Int) then (r01_Read.j1 k x0 (x4.extract 1 x4.size)) else (none)) else (r01_Read.j1 k x0 x4)
def r01_Read.j1 : Nat → ByteArray → ByteArray → Option (Int × Int)
 | 0, _, _ => none
 | k + 1, x0, x4 => if (x4.size : Int) = 0 then (r01_Read.j2 k x0 x4 true) else (if 0 < (x4.size : Int) then (if (bt x4 0) = 48 then (r01_Read.j2 k x0 x4 (decide ((x0.size : Int) > 1))) else (r01_Read.j2 k x0 x4 false)) else (none))
def r01_Read.j2 : Nat → ByteArray → ByteArray → Bool → Option (Int × Int)
 | 0, _, _, _ => none
 | k + 1, x0, x4, x32 => if x32 = true then (some (0, 2)) else (r01_Read.l0 k x0 x4 0)
def r01_Read.l0 : Nat → ByteArray → ByteArray → Int → Option (Int × Int)
 | 0, _, _, _ => none
 | k + 1, x0, x4, x5 => if x5 < (x4.size : Int) then (if 0 ≤ x5 then (if (bt x4 x5) < 48 then (some (0, 2)) else (if (bt x4 x5) > 57 then (some (0, 2)) else (r01_Read.l0 k x0 x4 (wrap64 (x5 + 1))))) else (none)) else (r01_Read.l1 k x0 x4 0 0)
def r01_Read.l1 : Nat → ByteArray → ByteArray → Int → Int → Option (Int × Int)
 | 0, _, _, _, _ => none
 | k + 1, x0, x4, x6, x7 => if x7 < (x4.size : Int) then (if 0 ≤ x7 then (if x6 < (wrap64 (Int.tdiv ((-9223372036854775808) + (((bt x4 x7) - 48) % 256)) 10)) then (some (0, 3)) else (r01_Read.l1 k x0 x4 (wrap64 ((wrap64 (10 * x6)) - (((bt x4 x7) - 48) % 256))) (wrap64 (x7 + 1)))) else (none)) else (if (x4.size : Int) < (x0.size : Int) then (some (x6, 0)) else (if x6 = (-9223372036854775808) then (some (0, 3)) else (some (wrap64 (-x6), 0))))
end
def r01_Read.f (k : Nat) (a0 : ByteArray) : Option (Int × Int) := if (a0.size : Int) > 1 then (if 0 < (a0.size : Int) then (r01_Read.j0 k a0 a0 ((bt a0 0) == 45)) else (none)) else (r01_Read.j0 k a0 a0 false)
theorem r01_Read.mono_l : ∀ k, (∀ y0 y1 y2, LeC (r01_Read.j0 k y0 y1 y2) (r01_Read.j0 (k + 1) y0 y1 y2)) ∧ (∀ y0 y1, LeC (r01_Read.j1 k y0 y1) (r01_Read.j1 (k + 1) y0 y1)) ∧ (∀ y0 y1 y2, LeC (r01_Read.j2 k y0 y1 y2) (r01_Read.j2 (k + 1) y0 y1 y2)) ∧ (∀ y0 y1 y2, LeC (r01_Read.l0 k y0 y1 y2) (r01_Read.l0 (k + 1) y0 y1 y2)) ∧ (∀ y0 y1 y2 y3, LeC (r01_Read.l1 k y0 y1 y2 y3) (r01_Read.l1 (k + 1) y0 y1 y2 y3))
 | 0 => ⟨fun _ _ _ => ⟨fun r h => by simp [r01_Read.j0] at h⟩, fun _ _ => ⟨fun r h => by simp [r01_Read.j1] at h⟩, fun _ _ _ => ⟨fun r h => by simp [r01_Read.j2] at h⟩, fun _ _ _ => ⟨fun r h => by simp [r01_Read.l0] at h⟩, fun _ _ _ _ => ⟨fun r h => by simp [r01_Read.l1] at h⟩⟩
 | k + 1 => by obtain ⟨ih0, ih1, ih2, ih3, ih4⟩ := r01_Read.mono_l k; exact ⟨fun _ _ _ => by unfold r01_Read.j0; exact lm, fun _ _ => by unfold r01_Read.j1; exact lm, fun _ _ _ => by unfold r01_Read.j2; exact lm, fun _ _ _ => by unfold r01_Read.l0; exact lm, fun _ _ _ _ => by unfold r01_Read.l1; exact lm⟩
theorem r01_Read.mono : ∀ a0 k, LeO (r01_Read.f k a0) (r01_Read.f (k + 1) a0) := by
 intro a0 k
 obtain ⟨ih0, ih1, ih2, ih3, ih4⟩ := r01_Read.mono_l k
 unfold r01_Read.f
 exact lo
instance r01_Read.mI {a0 k} : LeC (r01_Read.f k a0) (r01_Read.f (k + 1) a0) := ⟨r01_Read.mono _ _⟩
theorem r01_Read.calls (k : Nat) (a0 : ByteArray) (r1 : Int) (r2 : Int) (w : World) (h : r01_Read.f k a0 = some (r1, r2)) :
 Calls Tryz.prog 60 #[.string a0] w fun e w' => e = .returned (.tuple #[.int .i64 r1, .int .i64 r2]) ∧ Drawn0 w w' := by
 have H : (if (a0.size : Int) > 1 then (if 0 < (a0.size : Int) then (r01_Read.j0 k a0 a0 ((bt a0 0) == 45)) else (none)) else (r01_Read.j0 k a0 a0 false)) = some (r1, r2) := h
 clear h
 have HC2 := Aside0.mk H
 clear H
 go_enter Tryz.func60, Tryz.ntmps60
 go_upto_region 2 with (fail)
 go_cut [17] (fun v17 wc => ∃ (kq : Nat) (x17_1 : Bool), v17 = .bool x17_1 ∧ Aside0 (r01_Read.j0 kq a0 a0 x17_1 = some (r1, r2)) ∧ Aside0 (kq ≤ k) ∧ Drawn0 w wc)
 case first =>
  have H := HC2.out
  clear HC2
  by_cases c3 : (a0.size : Int) > 1
  ·
   rw [if_pos c3] at H
   have c3b0 : decide (1 < (a0.size : Int)) = true := decide_eq_true c3
   have c3b1 : decide (1 < a0.size) = true := decide_eq_true (by omega)
   clear c3
   (first | rw [c3b0] | (simp only [i64_w, i32_w]; rw [c3b0]) | skip)
   obtain ⟨c4, H⟩ := gd H
   have c4b0 : decide (0 < (a0.size : Int)) = true := decide_eq_true c4
   have c4b1 : decide (0 < a0.size) = true := decide_eq_true (by omega)
   clear c4
   have H' := Aside0.mk H
   clear H
   have p5 : 0 ≤ (0 : Int) := (by omega)
   have q5 : 0 < a0.size := (by have : (0 : Int) < (a0.size : Int) := od; omega)
   have hx5 : ∀ h : 0 < a0.size, ((a0[0]'h).toNat : Int) = bt a0 0 := bt_at a0 0
   clear p5
   have qi5 : (0 < (a0.size : Int)) = True := eq_true (od)
   replace q5 := eq_true q5
   go_wp2
   go_meet
   case rel => exact ⟨_, (((bt a0 0) == 45)), rs_, H', ⟨by first | omega | exact Nat.le_refl _⟩, dr_⟩
  ·
   rw [if_neg c3] at H
   have c3b0 : decide (1 < (a0.size : Int)) = false := decide_eq_false c3
   have c3b1 : decide (1 < a0.size) = false := decide_eq_false (by omega)
   clear c3
   (first | rw [c3b0] | (simp only [i64_w, i32_w]; rw [c3b0]) | skip)
   have H' := Aside0.mk H
   clear H
   go_wp2
   go_meet
   case rel => exact ⟨_, (false), rs_, H', ⟨by first | omega | exact Nat.le_refl _⟩, dr_⟩
 case rest =>
  clear HC2
  try clear p2
  try clear c3
  try clear c3b0
  try clear c3b1
  try clear c4
  try clear c4b0
  try clear c4b1
  try clear p5
  try clear q5
  try clear hx5
  try clear qi5
  try clear p5
  try clear q5
  obtain ⟨kq, x17_1, rfl, HA, HJ1, ⟨mc1, rfl⟩⟩ := hcut
  cases kq with
  | zero => exact absurd HA.out (by simp [r01_Read.j0])
  | succ kj1 =>
   have H := HA.out
   clear HA
   simp only [r01_Read.j0] at H
   have HC6 := Aside0.mk H
   clear H
   go_upto_if 17 with (fail)
   go_cut [4] (fun v4 wc => ∃ (kq : Nat) (x4_5 : ByteArray), v4 = .string x4_5 ∧ Aside0 (r01_Read.j1 kq a0 x4_5 = some (r1, r2)) ∧ Aside0 (kq ≤ kj1) ∧ Drawn0 w wc)
   case first =>
    have H := HC6.out
    clear HC6
    by_cases c7 : x17_1 = true
    ·
     subst c7
     rw [if_pos rfl] at H
     obtain ⟨c8, H⟩ := gd H
     have c8b0 := eq_true c8
     have c8b1 : decide (1 ≤ (a0.size : Int)) = true := decide_eq_true c8
     clear c8
     have H' := Aside0.mk H
     clear H
     go_wp2
     go_meet
     case rel => exact ⟨_, (a0.extract 1 a0.size), rs_, H', ⟨by have := HJ1.out; first | omega | exact Nat.le_refl _⟩, dr_⟩
    ·
     replace c7 := Bool.eq_false_iff.mpr c7
     subst c7
     rw [if_neg (show ¬ (false = true) by decide)] at H
     have H' := Aside0.mk H
     clear H
     go_wp2
     go_meet
     case rel => exact ⟨_, (a0), rs_, H', ⟨by have := HJ1.out; first | omega | exact Nat.le_refl _⟩, dr_⟩
   case rest =>
    clear HC6
    try clear c1
    try clear p2
    try clear c3
    try clear c3b0
    try clear c3b1
    try clear c4
    try clear c4b0
    try clear c4b1
    try clear p5
    try clear q5
    try clear hx5
    try clear qi5
    try clear c6
    try clear c7
    try clear c8
    try clear c8b0
    try clear c8b1
    try clear p2
    try clear p5
    try clear q5
    obtain ⟨kq, x4_5, rfl, HA, HJ5, ⟨mc5, rfl⟩⟩ := hcut
    cases kq with
    | zero => exact absurd HA.out (by simp [r01_Read.j1])
    | succ kj5 =>
     have H := HA.out
     clear HA
     simp only [r01_Read.j1] at H
     have HC9 := Aside0.mk H
     clear H
     go_upto_region 4 with (fail)
     go_cut [32] (fun v32 wc => ∃ (kq : Nat) (x32_8 : Bool), v32 = .bool x32_8 ∧ Aside0 (r01_Read.j2 kq a0 x4_5 x32_8 = some (r1, r2)) ∧ Aside0 (kq ≤ kj5) ∧ Drawn0 w wc)
     case first =>
      have H := HC9.out
      clear HC9
      by_cases c10 : (x4_5.size : Int) = 0
      ·
       rw [if_pos c10] at H
       have c10b0 : ((x4_5.size : Int) == 0) = true := beq_iff_eq.mpr c10
       have c10b1 : ((x4_5.size : Int) != 0) = false := bne_eq_false_iff_eq.mpr c10
       clear c10
       (first | rw [c10b0] | (simp only [i64_w, i32_w]; rw [c10b0]) | skip)
       have H' := Aside0.mk H
       clear H
       go_wp2
       go_meet
       case rel => exact ⟨_, (true), rs_, H', ⟨by have := HJ1.out; have := HJ5.out; first | omega | exact Nat.le_refl _⟩, dr_⟩
      ·
       rw [if_neg c10] at H
       have c10b0 : ((x4_5.size : Int) == 0) = false := beq_eq_false_iff_ne.mpr c10
       have c10b1 : ((x4_5.size : Int) != 0) = true := bne_iff_ne.mpr c10
       (first | rw [c10b0] | (simp only [i64_w, i32_w]; rw [c10b0]) | skip)
       obtain ⟨c11, H⟩ := gd H
       have c11b0 : decide (0 < (x4_5.size : Int)) = true := decide_eq_true c11
       have c11b1 : decide (0 < x4_5.size) = true := decide_eq_true (by omega)
       clear c11
       by_cases c13 : (bt x4_5 0) = 48
       ·
        rw [if_pos c13] at H
        have c13b0 : ((bt x4_5 0) == 48) = true := beq_iff_eq.mpr c13
        have c13b1 : ((bt x4_5 0) != 48) = false := bne_eq_false_iff_eq.mpr c13
        clear c13
        have H' := Aside0.mk H
        clear H
        have p12 : 0 ≤ (0 : Int) := (by omega)
        have q12 : 0 < x4_5.size := (by have : (0 : Int) < (x4_5.size : Int) := od; omega)
        have hx12 : ∀ h : 0 < x4_5.size, ((x4_5[0]'h).toNat : Int) = bt x4_5 0 := bt_at x4_5 0
        clear p12
        have qi12 : (0 < (x4_5.size : Int)) = True := eq_true (od)
        replace q12 := eq_true q12
        go_wp2
        go_meet
        case rel => exact ⟨_, (decide ((a0.size : Int) > 1)), rs_, H', ⟨by have := HJ1.out; have := HJ5.out; first | omega | exact Nat.le_refl _⟩, dr_⟩
       ·
        rw [if_neg c13] at H
        have c13b0 : ((bt x4_5 0) == 48) = false := beq_eq_false_iff_ne.mpr c13
        have c13b1 : ((bt x4_5 0) != 48) = true := bne_iff_ne.mpr c13
        have H' := Aside0.mk H
        clear H
        have p12 : 0 ≤ (0 : Int) := (by omega)
        have q12 : 0 < x4_5.size := (by have : (0 : Int) < (x4_5.size : Int) := od; omega)
        have hx12 : ∀ h : 0 < x4_5.size, ((x4_5[0]'h).toNat : Int) = bt x4_5 0 := bt_at x4_5 0
        clear p12
        have qi12 : (0 < (x4_5.size : Int)) = True := eq_true (od)
        replace q12 := eq_true q12
        go_wp2
        go_meet
        case rel => exact ⟨_, (false), rs_, H', ⟨by have := HJ1.out; have := HJ5.out; first | omega | exact Nat.le_refl _⟩, dr_⟩
     case rest =>
      clear HC9
      try clear c1
      try clear p1
      try clear q1
      try clear hx1
      try clear qi1
      try clear p2
      try clear c3
      try clear c3b0
      try clear c3b1
      try clear c4
      try clear c4b0
      try clear c4b1
      try clear c5
      try clear p5
      try clear q5
      try clear hx5
      try clear qi5
      try clear c6
      try clear c7
      try clear c8
      try clear c8b0
      try clear c8b1
      try clear c10
      try clear c10b0
      try clear c10b1
      try clear c11
      try clear c11b0
      try clear c11b1
      try clear p12
      try clear q12
      try clear hx12
      try clear qi12
      try clear c13
      try clear c13b0
      try clear c13b1
      try clear p12
      try clear p2
      try clear p5
      try clear q12
      try clear q5
      obtain ⟨kq, x32_8, rfl, HA, HJ8, ⟨mc8, rfl⟩⟩ := hcut
      cases kq with
      | zero => exact absurd HA.out (by simp [r01_Read.j2])
      | succ kj8 =>
       have H := HA.out
       clear HA
       simp only [r01_Read.j2] at H
       by_cases c14 : x32_8 = true
       ·
        subst c14
        rw [if_pos rfl] at H
        simp only [Option.some.injEq, Prod.mk.injEq] at H
        obtain ⟨rfl, rfl⟩ := H
        go_wp2
        go_ret2
        exact ⟨rs_, dr_⟩
       ·
        replace c14 := Bool.eq_false_iff.mpr c14
        subst c14
        rw [if_neg (show ¬ (false = true) by decide)] at H
        have H' := Aside0.mk H
        clear H
        go_wp2
        go_loopg [5] kj8 (fun kq v5 w' => ∃ (x5_4 : Int), v5 = .int .i64 x5_4 ∧ Aside0 (r01_Read.l0 kq a0 x4_5 x5_4 = some (r1, r2)) ∧ Aside0 (kq ≤ kj8) ∧ Drawn0 w w')
        case atStart => exact ⟨(0), rs_, H', ⟨Nat.le_refl _⟩, dr_⟩
        case round =>
         clear H'
         try clear c1
         try clear p1
         try clear q1
         try clear hx1
         try clear qi1
         try clear p2
         try clear c3
         try clear c3b0
         try clear c3b1
         try clear c4
         try clear c4b0
         try clear c4b1
         try clear c5
         try clear p5
         try clear q5
         try clear hx5
         try clear qi5
         try clear c6
         try clear c7
         try clear c8
         try clear c8b0
         try clear c8b1
         try clear c10
         try clear c10b0
         try clear c10b1
         try clear c11
         try clear c11b0
         try clear c11b1
         try clear p12
         try clear q12
         try clear hx12
         try clear qi12
         try clear c13
         try clear c13b0
         try clear c13b1
         try clear c14
         try clear p1
         try clear p12
         try clear p2
         try clear p5
         try clear q1
         try clear q12
         try clear q5
         obtain ⟨x5_4, rfl, HA, HK4, ⟨m4, rfl⟩⟩ := hrel
         cases gk with
         | zero => exact absurd HA.out (by simp [r01_Read.l0])
         | succ k4 =>
          have H := HA.out
          clear HA
          simp only [r01_Read.l0] at H
          by_cases c15 : x5_4 < (x4_5.size : Int)
          ·
           rw [if_pos c15] at H
           have c15b0 : decide (x5_4 < (x4_5.size : Int)) = true := decide_eq_true c15
           clear c15
           obtain ⟨c16b0, H⟩ := gdd H
           by_cases c18 : (bt x4_5 x5_4) < 48
           ·
            rw [if_pos c18] at H
            have c18b0 : decide ((bt x4_5 x5_4) < 48) = true := decide_eq_true c18
            clear c18
            simp only [Option.some.injEq, Prod.mk.injEq] at H
            obtain ⟨rfl, rfl⟩ := H
            have p17 : 0 ≤ (x5_4 : Int) := od
            have q17 : x5_4 < (x4_5.size : Int) := od
            have hx17 := bt_at x4_5 x5_4
            replace p17 := eq_true p17
            replace q17 := eq_true q17
            go_wp2
            go_ret2
            exact ⟨rs_, dr_⟩
           ·
            rw [if_neg c18] at H
            have c18b0 : decide ((bt x4_5 x5_4) < 48) = false := decide_eq_false c18
            clear c18
            by_cases c20 : (bt x4_5 x5_4) > 57
            ·
             rw [if_pos c20] at H
             have c20b0 : decide (57 < (bt x4_5 x5_4)) = true := decide_eq_true c20
             clear c20
             simp only [Option.some.injEq, Prod.mk.injEq] at H
             obtain ⟨rfl, rfl⟩ := H
             have p17 : 0 ≤ (x5_4 : Int) := od
             have q17 : x5_4 < (x4_5.size : Int) := od
             have hx17 := bt_at x4_5 x5_4
             replace p17 := eq_true p17
             replace q17 := eq_true q17
             have p19 : 0 ≤ (x5_4 : Int) := od
             have q19 : x5_4 < (x4_5.size : Int) := od
             have hx19 := bt_at x4_5 x5_4
             replace p19 := eq_true p19
             replace q19 := eq_true q19
             go_wp2
             go_ret2
             exact ⟨rs_, dr_⟩
            ·
             rw [if_neg c20] at H
             have c20b0 : decide (57 < (bt x4_5 x5_4)) = false := decide_eq_false c20
             clear c20
             have H' := Aside0.mk H
             clear H
             have p17 : 0 ≤ (x5_4 : Int) := od
             have q17 : x5_4 < (x4_5.size : Int) := od
             have hx17 := bt_at x4_5 x5_4
             replace p17 := eq_true p17
             replace q17 := eq_true q17
             have p19 : 0 ≤ (x5_4 : Int) := od
             have q19 : x5_4 < (x4_5.size : Int) := od
             have hx19 := bt_at x4_5 x5_4
             replace p19 := eq_true p19
             replace q19 := eq_true q19
             go_wp2
             go_roundg k4
             case measure => have := HJ1.out; have := HJ5.out; have := HJ8.out; have := HK4.out; omega
             case rel => exact ⟨(wrap64 (x5_4 + 1)), rs_, H', ⟨by have := HJ1.out; have := HJ5.out; have := HJ8.out; have := HK4.out; omega⟩, dr_⟩
          ·
           rw [if_neg c15] at H
           have c15b0 : decide (x5_4 < (x4_5.size : Int)) = false := decide_eq_false c15
           clear c15
           have H' := Aside0.mk H
           clear H
           go_wp2
           go_loopg [6, 7] k4 (fun kq v6 v7 w' => ∃ (x6_5 : Int) (x7_5 : Int), v6 = .int .i64 x6_5 ∧ v7 = .int .i64 x7_5 ∧ Aside0 (r01_Read.l1 kq a0 x4_5 x6_5 x7_5 = some (r1, r2)) ∧ Aside0 (kq ≤ k4) ∧ Drawn0 w w')
           case atStart => exact ⟨(0), (0), rs_, rs_, H', ⟨Nat.le_refl _⟩, dr_⟩
           case round =>
            clear H'
            try clear c1
            try clear p1
            try clear q1
            try clear hx1
            try clear qi1
            try clear c2
            try clear p2
            try clear c3
            try clear c3b0
            try clear c3b1
            try clear c4
            try clear c4b0
            try clear c4b1
            try clear c5
            try clear p5
            try clear q5
            try clear hx5
            try clear qi5
            try clear c6
            try clear p6
            try clear c7
            try clear c8
            try clear c8b0
            try clear c8b1
            try clear c10
            try clear c10b0
            try clear c10b1
            try clear c11
            try clear c11b0
            try clear c11b1
            try clear p12
            try clear q12
            try clear hx12
            try clear qi12
            try clear c13
            try clear c13b0
            try clear c13b1
            try clear c14
            try clear c15
            try clear c15b0
            try clear c16
            try clear c16b0
            try clear p17
            try clear q17
            try clear hx17
            try clear c18
            try clear c18b0
            try clear p19
            try clear q19
            try clear hx19
            try clear c20
            try clear c20b0
            try clear p1
            try clear p12
            try clear p17
            try clear p19
            try clear p2
            try clear p5
            try clear q1
            try clear q12
            try clear q17
            try clear q19
            try clear q5
            obtain ⟨x6_5, x7_5, rfl, rfl, HA, HK5, ⟨m5, rfl⟩⟩ := hrel
            cases gk with
            | zero => exact absurd HA.out (by simp [r01_Read.l1])
            | succ k5 =>
             have H := HA.out
             clear HA
             simp only [r01_Read.l1] at H
             by_cases c21 : x7_5 < (x4_5.size : Int)
             ·
              rw [if_pos c21] at H
              have c21b0 : decide (x7_5 < (x4_5.size : Int)) = true := decide_eq_true c21
              clear c21
              obtain ⟨c22b0, H⟩ := gdd H
              by_cases c24 : x6_5 < (wrap64 (Int.tdiv ((-9223372036854775808) + (((bt x4_5 x7_5) - 48) % 256)) 10))
              ·
               rw [if_pos c24] at H
               have c24b0 : decide (x6_5 < (wrap64 (Int.tdiv ((-9223372036854775808) + (((bt x4_5 x7_5) - 48) % 256)) 10))) = true := decide_eq_true c24
               have c24b7 : decide (x6_5 < Int.tdiv ((-9223372036854775808) + (((bt x4_5 x7_5) - 48) % 256)) 10) = true := by rw [← r01_Read.wtd (a := ((-9223372036854775808) + (((bt x4_5 x7_5) - 48) % 256))) (by omega) (by omega)]; exact c24b0
               clear c24
               simp only [Option.some.injEq, Prod.mk.injEq] at H
               obtain ⟨rfl, rfl⟩ := H
               have p23 : 0 ≤ (x7_5 : Int) := od
               have q23 : x7_5 < (x4_5.size : Int) := od
               have hx23 := bt_at x4_5 x7_5
               replace p23 := eq_true p23
               replace q23 := eq_true q23
               go_wp2
               go_ret2
               exact ⟨rs_, dr_⟩
              ·
               rw [if_neg c24] at H
               have c24b0 : decide (x6_5 < (wrap64 (Int.tdiv ((-9223372036854775808) + (((bt x4_5 x7_5) - 48) % 256)) 10))) = false := decide_eq_false c24
               have c24b7 : decide (x6_5 < Int.tdiv ((-9223372036854775808) + (((bt x4_5 x7_5) - 48) % 256)) 10) = false := by rw [← r01_Read.wtd (a := ((-9223372036854775808) + (((bt x4_5 x7_5) - 48) % 256))) (by omega) (by omega)]; exact c24b0
               clear c24
               have H' := Aside0.mk H
               clear H
               have p23 : 0 ≤ (x7_5 : Int) := od
               have q23 : x7_5 < (x4_5.size : Int) := od
               have hx23 := bt_at x4_5 x7_5
               replace p23 := eq_true p23
               replace q23 := eq_true q23
               go_wp2
               go_roundg k5
               case measure => have := HJ1.out; have := HJ5.out; have := HJ8.out; have := HK4.out; have := HK5.out; omega
               case rel => exact ⟨(wrap64 ((wrap64 (10 * x6_5)) - (((bt x4_5 x7_5) - 48) % 256))), (wrap64 (x7_5 + 1)), rs_, rs_, H', ⟨by have := HJ1.out; have := HJ5.out; have := HJ8.out; have := HK4.out; have := HK5.out; omega⟩, dr_⟩
             ·
              rw [if_neg c21] at H
              have c21b0 : decide (x7_5 < (x4_5.size : Int)) = false := decide_eq_false c21
              clear c21
              by_cases c25 : (x4_5.size : Int) < (a0.size : Int)
              ·
               rw [if_pos c25] at H
               have c25b0 : decide ((x4_5.size : Int) < (a0.size : Int)) = true := decide_eq_true c25
               have c25b1 : decide (x4_5.size < a0.size) = true := decide_eq_true (Int.ofNat_lt.mp c25)
               clear c25
               simp only [Option.some.injEq, Prod.mk.injEq] at H
               obtain ⟨rfl, rfl⟩ := H
               go_wp2
               go_ret2
               exact ⟨rs_, dr_⟩
              ·
               rw [if_neg c25] at H
               have c25b0 : decide ((x4_5.size : Int) < (a0.size : Int)) = false := decide_eq_false c25
               have c25b1 : decide (x4_5.size < a0.size) = false := decide_eq_false (fun h => c25 (Int.ofNat_lt.mpr h))
               clear c25
               by_cases c26 : x6_5 = (-9223372036854775808)
               ·
                rw [if_pos c26] at H
                have c26b0 : (x6_5 == (-9223372036854775808)) = true := beq_iff_eq.mpr c26
                have c26b1 : (x6_5 != (-9223372036854775808)) = false := bne_eq_false_iff_eq.mpr c26
                clear c26
                simp only [Option.some.injEq, Prod.mk.injEq] at H
                obtain ⟨rfl, rfl⟩ := H
                go_wp2
                go_ret2
                exact ⟨rs_, dr_⟩
               ·
                rw [if_neg c26] at H
                have c26b0 : (x6_5 == (-9223372036854775808)) = false := beq_eq_false_iff_ne.mpr c26
                have c26b1 : (x6_5 != (-9223372036854775808)) = true := bne_iff_ne.mpr c26
                simp only [Option.some.injEq, Prod.mk.injEq] at H
                obtain ⟨rfl, rfl⟩ := H
                go_wp2
                go_ret2
                exact ⟨rs_, dr_⟩
def r01_Parse.j0 : Nat → ByteArray → Bool → Option (Int × Bool × Int)
 | 0, _, _ => none
 | k + 1, x0, x4 => if x4 = true then (if 0 ≤ (wrap64 ((x0.size : Int) - 1)) then (if (wrap64 ((x0.size : Int) - 1)) ≤ (x0.size : Int) then ((r01_Read.f k (x0.extract 0 ((wrap64 ((x0.size : Int) - 1)) : Int).toNat)).bind fun bt511 => (if bt511.2 = 0 then (some (bt511.1, x4, 0)) else (some (0, false, bt511.2)))) else (none)) else (none)) else ((r01_Read.f k x0).bind fun bt513 => (if bt513.2 = 0 then (some (bt513.1, x4, 0)) else (some (0, false, bt513.2))))
def r01_Parse.f (k : Nat) (a0 : ByteArray) : Option (Int × Bool × Int) := if (a0.size : Int) > 0 then (if 0 ≤ (wrap64 ((a0.size : Int) - 1)) then (if (wrap64 ((a0.size : Int) - 1)) < (a0.size : Int) then (r01_Parse.j0 k a0 ((bt a0 (wrap64 ((a0.size : Int) - 1))) == 33)) else (none)) else (none)) else (r01_Parse.j0 k a0 false)
theorem r01_Parse.mono_l : ∀ k, (∀ y0 y1, LeC (r01_Parse.j0 k y0 y1) (r01_Parse.j0 (k + 1) y0 y1))
 | 0 => fun _ _ => ⟨fun r h => by simp [r01_Parse.j0] at h⟩
 | k + 1 => by have ih0 := r01_Parse.mono_l k; exact fun _ _ => by unfold r01_Parse.j0; exact lm
theorem r01_Parse.mono : ∀ a0 k, LeO (r01_Parse.f k a0) (r01_Parse.f (k + 1) a0) := by
 intro a0 k
 have ih0 := r01_Parse.mono_l k
 unfold r01_Parse.f
 exact lo
instance r01_Parse.mI {a0 k} : LeC (r01_Parse.f k a0) (r01_Parse.f (k + 1) a0) := ⟨r01_Parse.mono _ _⟩
theorem r01_Parse.calls (k : Nat) (a0 : ByteArray) (r1 : Int) (r2 : Bool) (r3 : Int) (w : World) (h : r01_Parse.f k a0 = some (r1, r2, r3)) :
 Calls Tryz.prog 63 #[.string a0] w fun e w' => e = .returned (.tuple #[.agg #[.int .i64 r1, .bool r2], .int .i64 r3]) ∧ Below w.heap.size w w' := by
 have hu43 := Tryz.underlying43
 have HB := Aside0.mk (Below.refl w.heap.size w)
 have H : (if (a0.size : Int) > 0 then (if 0 ≤ (wrap64 ((a0.size : Int) - 1)) then (if (wrap64 ((a0.size : Int) - 1)) < (a0.size : Int) then (r01_Parse.j0 k a0 ((bt a0 (wrap64 ((a0.size : Int) - 1))) == 33)) else (none)) else (none)) else (r01_Parse.j0 k a0 false)) = some (r1, r2, r3) := h
 clear h
 have HC2 := Aside0.mk H
 clear H
 go_enter Tryz.func63, Tryz.ntmps63
 go_upto_region 1 with (first | ((with_reducible refine gate_dst (N := 2) rfl ?_); (try (refine gate_guard (by rfl) ?_; dsimp only)); refine bx (N := 2) #[.int .i64 0, .bool false] 43 ?_; intro gb510 hg w3 hbox hb; have BK510 := Aside0.mk (hbox); have GW510 := gw hg (uW HB.out); have GE510 := GW510; replace HB := cW HB hb; clear hb hbox hg))
 (try simp only [Act.put, List.setIfInBounds_toArray, List.set_cons_zero, List.set_cons_succ])
 go_cut [4] (fun v4 wc => ∃ (kq : Nat) (x4_1 : Bool), v4 = .bool x4_1 ∧ Aside0 (r01_Parse.j0 kq a0 x4_1 = some (r1, r2, r3)) ∧ Aside0 (kq ≤ k) ∧ Aside0 (wc.heap[gb510]? = some (.cells #[.int .i64 0, .bool false] 43 (0, 0))) ∧ Aside0 (Below w.heap.size w wc))
 case first =>
  have H := HC2.out
  clear HC2
  by_cases c4 : (a0.size : Int) > 0
  ·
   rw [if_pos c4] at H
   have c4b0 : decide (0 < (a0.size : Int)) = true := decide_eq_true c4
   have c4b1 : decide (0 < a0.size) = true := decide_eq_true (by omega)
   clear c4
   (first | rw [c4b0] | (simp only [i64_w, i32_w]; rw [c4b0]) | skip)
   obtain ⟨ji5, hji5⟩ : ∃ j_ : Int, (wrap64 ((a0.size : Int) - 1)) = j_ := ⟨_, rfl⟩
   (first | rw [hji5] at H | simp only [hji5] at H)
   have hji5w : (IntKind.i64.wrap ((a0.size : Int) - 1)) = ji5 := (i64_w _).trans hji5
   obtain ⟨c6b0, H⟩ := gdd H
   obtain ⟨c7b0, H⟩ := gdd H
   have H' := Aside0.mk H
   clear H
   have p8 : 0 ≤ ((ji5) : Int) := od
   have q8 : (ji5) < (a0.size : Int) := od
   have hx8 := bt_at a0 (ji5)
   replace p8 := eq_true p8
   replace q8 := eq_true q8
   go_wp2
   go_meet
   case rel => exact ⟨_, (((bt a0 (ji5)) == 33)), (by first | rfl | (simp; done) | (simp only [← hji5] <;> (first | rfl | simp)) | (simp [*]; done)), H', ⟨by first | omega | exact Nat.le_refl _⟩, ⟨uB BK510.out⟩, ⟨bl⟩⟩
  ·
   rw [if_neg c4] at H
   have c4b0 : decide (0 < (a0.size : Int)) = false := decide_eq_false c4
   have c4b1 : decide (0 < a0.size) = false := decide_eq_false (by omega)
   clear c4
   (first | rw [c4b0] | (simp only [i64_w, i32_w]; rw [c4b0]) | skip)
   have H' := Aside0.mk H
   clear H
   go_wp2
   go_meet
   case rel => exact ⟨_, (false), rs_, H', ⟨by first | omega | exact Nat.le_refl _⟩, ⟨uB BK510.out⟩, ⟨bl⟩⟩
 case rest =>
  clear HC2
  try clear p2
  try clear c4
  try clear c4b0
  try clear c4b1
  try clear c6
  try clear c6b0
  try clear p6
  try clear c7
  try clear c7b0
  try clear p8
  try clear q8
  try clear hx8
  try clear p8
  try clear q8
  obtain ⟨kq, x4_1, rfl, HA, HJ1, BK510, HB⟩ := hcut
  cases kq with
  | zero => exact absurd HA.out (by simp [r01_Parse.j0])
  | succ kj1 =>
   have H := HA.out
   clear HA
   simp only [r01_Parse.j0] at H
   by_cases c9 : x4_1 = true
   ·
    subst c9
    rw [if_pos rfl] at H
    obtain ⟨ji10, hji10⟩ : ∃ j_ : Int, (wrap64 ((a0.size : Int) - 1)) = j_ := ⟨_, rfl⟩
    (first | rw [hji10] at H | simp only [hji10] at H)
    have hji10w : (IntKind.i64.wrap ((a0.size : Int) - 1)) = ji10 := (i64_w _).trans hji10
    obtain ⟨c11, H⟩ := gd H
    have c11b0 := eq_true c11
    have c11b1 : decide (0 ≤ (ji10)) = true := decide_eq_true c11
    clear c11
    obtain ⟨c12, H⟩ := gd H
    have c12b0 := eq_true c12
    have c12b1 : decide ((ji10) ≤ (a0.size : Int)) = true := decide_eq_true c12
    clear c12
    obtain ⟨⟨t511, t512⟩, A13, H⟩ := bs H
    try dsimp only at H
    by_cases c14 : t512 = 0
    ·
     rw [if_pos c14] at H
     have c14b0 : (t512 == 0) = true := beq_iff_eq.mpr c14
     have c14b1 : (t512 != 0) = false := bne_eq_false_iff_eq.mpr c14
     clear c14
     simp only [Option.some.injEq, Prod.mk.injEq] at H
     obtain ⟨rfl, rfl, rfl⟩ := H
     go_wp2_with (first | ((with_reducible refine gate_callee (f := 60) rfl ?_); refine goesL_ (some 26) rfl rfl Tryz.func60 (by kernel_rfl) rfl #[.string (a0.extract 0 ((ji10) : Int).toNat)] rfl (by (try simp only [List.map_toArray, List.map_cons, List.map_nil]); first | done | (simp only [hji10]; rfl) | rfl | (simp only [List.length_drop, List.length_take]; rfl)) ?_; (with_reducible refine (r01_Read.calls kj1 (a0.extract 0 ((ji10) : Int).toNat) t511 t512 _ A13.out).mono ?_); rintro e w' ⟨rfl, ⟨nd, rfl⟩⟩; refine ⟨_, rfl, ?_⟩; (try (rw [drewN_self wc]; generalize hq_ : World.drewN wc _ = wc; have n0_ : Aside0 (wc.heap[gb510]? = some (.cells #[.int .i64 0, .bool false] 43 (0, 0))) := ⟨by rw [← hq_]; exact (uB BK510.out)⟩; have n1_ : Aside0 (Below w.heap.size w wc) := ⟨by rw [← hq_]; exact bl⟩; clear BK510 HB hq_; have BK510 := n0_; have HB := n1_; clear n0_ n1_)); obtain ⟨hcz15_0, hcz15_1, hfz15_0, hfz15_1⟩ := z2 BK510))
     refine bodyPost_ret (results_ct rfl _ _ gb510 43 #[.int .i64 t511, .bool true] (0, 0) _ rfl (by (with_reducible repeat (first | refine blk_drewN ?_ _ | refine blk_drew ?_ | refine blk_alloc ?_ _)); refine blk_put (cs := #[.int .i64 t511, .bool false]) ?_ 1 _ rfl; (with_reducible repeat (first | refine blk_drewN ?_ _ | refine blk_drew ?_ | refine blk_alloc ?_ _)); refine blk_put (cs := #[.int .i64 0, .bool false]) ?_ 0 _ rfl; exact uB <| BK510.out) Tryz.underlying43 rfl (by kernel_rfl)) rfl ?_
     exact ⟨by first | rfl | (simp [errW_none, errW_some] <;> rfl) | (simp only [← hji10]; first | rfl | (simp [errW_none, errW_some] <;> rfl)) | (simp [*, errW_none, errW_some] <;> rfl), bl⟩
    ·
     rw [if_neg c14] at H
     have c14b0 : (t512 == 0) = false := beq_eq_false_iff_ne.mpr c14
     have c14b1 : (t512 != 0) = true := bne_iff_ne.mpr c14
     simp only [Option.some.injEq, Prod.mk.injEq] at H
     obtain ⟨rfl, rfl, rfl⟩ := H
     go_wp2_with (first | ((with_reducible refine gate_callee (f := 60) rfl ?_); refine goesL_ (some 26) rfl rfl Tryz.func60 (by kernel_rfl) rfl #[.string (a0.extract 0 ((ji10) : Int).toNat)] rfl (by (try simp only [List.map_toArray, List.map_cons, List.map_nil]); first | done | (simp only [hji10]; rfl) | rfl | (simp only [List.length_drop, List.length_take]; rfl)) ?_; (with_reducible refine (r01_Read.calls kj1 (a0.extract 0 ((ji10) : Int).toNat) t511 t512 _ A13.out).mono ?_); rintro e w' ⟨rfl, ⟨nd, rfl⟩⟩; refine ⟨_, rfl, ?_⟩; (try (rw [drewN_self wc]; generalize hq_ : World.drewN wc _ = wc; have n0_ : Aside0 (wc.heap[gb510]? = some (.cells #[.int .i64 0, .bool false] 43 (0, 0))) := ⟨by rw [← hq_]; exact (uB BK510.out)⟩; have n1_ : Aside0 (Below w.heap.size w wc) := ⟨by rw [← hq_]; exact bl⟩; clear BK510 HB hq_; have BK510 := n0_; have HB := n1_; clear n0_ n1_)); obtain ⟨hcz16_0, hcz16_1, hfz16_0, hfz16_1⟩ := z2 BK510))
     refine bodyPost_ret (results_ct rfl _ _ gb510 43 #[.int .i64 0, .bool false] (0, 0) _ rfl (by (with_reducible repeat (first | refine blk_drewN ?_ _ | refine blk_drew ?_ | refine blk_alloc ?_ _)); refine blk_put (cs := #[.int .i64 0, .bool false]) ?_ 1 _ rfl; (with_reducible repeat (first | refine blk_drewN ?_ _ | refine blk_drew ?_ | refine blk_alloc ?_ _)); refine blk_put (cs := #[.int .i64 0, .bool false]) ?_ 0 _ rfl; exact uB <| BK510.out) Tryz.underlying43 rfl (by kernel_rfl)) rfl ?_
     exact ⟨by first | rfl | (simp [errW_none, errW_some] <;> rfl) | (simp only [← hji10]; first | rfl | (simp [errW_none, errW_some] <;> rfl)) | (simp [*, errW_none, errW_some] <;> rfl), bl⟩
   ·
    replace c9 := Bool.eq_false_iff.mpr c9
    subst c9
    rw [if_neg (show ¬ (false = true) by decide)] at H
    obtain ⟨⟨t513, t514⟩, A17, H⟩ := bs H
    try dsimp only at H
    by_cases c18 : t514 = 0
    ·
     rw [if_pos c18] at H
     have c18b0 : (t514 == 0) = true := beq_iff_eq.mpr c18
     have c18b1 : (t514 != 0) = false := bne_eq_false_iff_eq.mpr c18
     clear c18
     simp only [Option.some.injEq, Prod.mk.injEq] at H
     obtain ⟨rfl, rfl, rfl⟩ := H
     go_wp2_with (first | (refine gL (some 26) rfl Tryz.func60 #[.string a0] ?_; (with_reducible refine (r01_Read.calls kj1 a0 t513 t514 _ A17.out).mono ?_); rintro e w' ⟨rfl, ⟨nd, rfl⟩⟩; refine ⟨_, rfl, ?_⟩; (try (rw [drewN_self wc]; generalize hq_ : World.drewN wc _ = wc; have n0_ : Aside0 (wc.heap[gb510]? = some (.cells #[.int .i64 0, .bool false] 43 (0, 0))) := ⟨by rw [← hq_]; exact (uB BK510.out)⟩; have n1_ : Aside0 (Below w.heap.size w wc) := ⟨by rw [← hq_]; exact bl⟩; clear BK510 HB hq_; have BK510 := n0_; have HB := n1_; clear n0_ n1_)); obtain ⟨hcz19_0, hcz19_1, hfz19_0, hfz19_1⟩ := z2 BK510))
     refine bodyPost_ret (results_ct rfl _ _ gb510 43 #[.int .i64 t513, .bool false] (0, 0) _ rfl (by (with_reducible repeat (first | refine blk_drewN ?_ _ | refine blk_drew ?_ | refine blk_alloc ?_ _)); refine blk_put (cs := #[.int .i64 t513, .bool false]) ?_ 1 _ rfl; (with_reducible repeat (first | refine blk_drewN ?_ _ | refine blk_drew ?_ | refine blk_alloc ?_ _)); refine blk_put (cs := #[.int .i64 0, .bool false]) ?_ 0 _ rfl; exact uB <| BK510.out) Tryz.underlying43 rfl (by kernel_rfl)) rfl ?_
     exact ⟨re_, bl⟩
    ·
     rw [if_neg c18] at H
     have c18b0 : (t514 == 0) = false := beq_eq_false_iff_ne.mpr c18
     have c18b1 : (t514 != 0) = true := bne_iff_ne.mpr c18
     simp only [Option.some.injEq, Prod.mk.injEq] at H
     obtain ⟨rfl, rfl, rfl⟩ := H
     go_wp2_with (first | (refine gL (some 26) rfl Tryz.func60 #[.string a0] ?_; (with_reducible refine (r01_Read.calls kj1 a0 t513 t514 _ A17.out).mono ?_); rintro e w' ⟨rfl, ⟨nd, rfl⟩⟩; refine ⟨_, rfl, ?_⟩; (try (rw [drewN_self wc]; generalize hq_ : World.drewN wc _ = wc; have n0_ : Aside0 (wc.heap[gb510]? = some (.cells #[.int .i64 0, .bool false] 43 (0, 0))) := ⟨by rw [← hq_]; exact (uB BK510.out)⟩; have n1_ : Aside0 (Below w.heap.size w wc) := ⟨by rw [← hq_]; exact bl⟩; clear BK510 HB hq_; have BK510 := n0_; have HB := n1_; clear n0_ n1_)); obtain ⟨hcz20_0, hcz20_1, hfz20_0, hfz20_1⟩ := z2 BK510))
     refine bodyPost_ret (results_ct rfl _ _ gb510 43 #[.int .i64 0, .bool false] (0, 0) _ rfl (by (with_reducible repeat (first | refine blk_drewN ?_ _ | refine blk_drew ?_ | refine blk_alloc ?_ _)); refine blk_put (cs := #[.int .i64 0, .bool false]) ?_ 1 _ rfl; (with_reducible repeat (first | refine blk_drewN ?_ _ | refine blk_drew ?_ | refine blk_alloc ?_ _)); refine blk_put (cs := #[.int .i64 0, .bool false]) ?_ 0 _ rfl; exact uB <| BK510.out) Tryz.underlying43 rfl (by kernel_rfl)) rfl ?_
     exact ⟨re_, bl⟩
end Go.Proofs.YtgcbejidponoaaaGreatDoor.X
