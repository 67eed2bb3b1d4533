/- Printed by a program of this session's own: what functions of the program compute, and that the machine computes it. No condition of its own. -/
import Derived.Test.YtgcbejidponoaaaGreatDoorM3
import Derived.Test.YtgcbejidponoaaaGreatDoorM8
import Derived.Test.YtgcbejidponoaaaGreatDoorM9
import Derived.Test.YtgcbejidponoaaaGreatDoorM10
import Derived.Test.YtgcbejidponoaaaGreatDoorM12
import Derived.Test.YtgcbejidponoaaaGreatDoorM13
namespace Go.Proofs.YtgcbejidponoaaaGreatDoor.X
open Go.RowKit Go.Proofs.YtgcbejidponoaaaGreatDoorW.PrintWords Go.Proofs.YtgcbejidponoaaaGreatDoorW.PrintLast Go.Proofs.YtgcbejidponoaaaGreatDoorW.PrintMore
attribute [local go_sem] max2_int min2_int max_two min_two max_three min_three max_four min_four
set_option linter.unusedVariables false
set_option linter.unusedSimpArgs false
set_option maxHeartbeats 8000000
set_option maxRecDepth 100000
mutual
def w09_DiffBack.j0 : Nat → List (S45) → List (S45) → List (S48) → Bool → Option (Bool)
 | 0, _, _, _, _ => none
 | k + 1, x0, x1, x2, x24 => if x24 = true then (some true) else ((r09_Right.f k x2).bind fun t616 => (if t616 = true then ((diff_Text.f k x2).bind fun t617 => ((diff_Parse.f k t617).bind fun bt618 => (if bt618.2 = 0 then ((r09_Same.f k bt618.1 x2).bind fun t622 => (if t622 = true then (w09_DiffBack.j1 k x0 x1) else (none))) else (none)))) else (w09_DiffBack.j1 k x0 x1)))
def w09_DiffBack.j1 : Nat → List (S45) → List (S45) → Option (Bool)
 | 0, _, _ => none
 | k + 1, x0, x1 => (diff_Of.f k x0 x1).bind fun bt623 => (if bt623.2 = 0 then ((diff_Apply.f k x0 bt623.1).bind fun bt627 => (if bt627.2 = 0 then ((r08_Same.f k bt627.1 x1).bind fun t631 => (if t631 = true then ((r08_Same.f k x0 x1).bind fun t632 => (if (((bt623.1.length : Int) == 0) == t632) = true then ((r09_Right.f k bt623.1).bind fun t633 => (some t633)) else (none))) else (none))) else (none))) else (some ((bt623.1.length : Int) == 0)))
end
def w09_DiffBack.f (k : Nat) (l0 : List (S45)) (l1 : List (S45)) (l2 : List (S48)) : Option (Bool) := (w09_alive.f k).bind fun t612 => (if t612 = true then ((r08_Great.f k l0).bind fun t613 => (if t613 = true then (w09_DiffBack.j0 k l0 l1 l2 true) else ((r08_Great.f k l1).bind fun t614 => (if t614 = true then (w09_DiffBack.j0 k l0 l1 l2 true) else ((r09_Great.f k l2).bind fun t615 => (w09_DiffBack.j0 k l0 l1 l2 t615)))))) else (none))
theorem w09_DiffBack.mono_l : ∀ k, (∀ y0 y1 y2 y3, LeC (w09_DiffBack.j0 k y0 y1 y2 y3) (w09_DiffBack.j0 (k + 1) y0 y1 y2 y3)) ∧ (∀ y0 y1, LeC (w09_DiffBack.j1 k y0 y1) (w09_DiffBack.j1 (k + 1) y0 y1))
 | 0 => ⟨fun _ _ _ _ => ⟨fun r h => by simp [w09_DiffBack.j0] at h⟩, fun _ _ => ⟨fun r h => by simp [w09_DiffBack.j1] at h⟩⟩
 | k + 1 => by obtain ⟨ih0, ih1⟩ := w09_DiffBack.mono_l k; exact ⟨fun _ _ _ _ => by unfold w09_DiffBack.j0; exact lm, fun _ _ => by unfold w09_DiffBack.j1; exact lm⟩
theorem w09_DiffBack.mono : ∀ a0 a1 a2 k, LeO (w09_DiffBack.f k a0 a1 a2) (w09_DiffBack.f (k + 1) a0 a1 a2) := by
 intro a0 a1 a2 k
 obtain ⟨ih0, ih1⟩ := w09_DiffBack.mono_l k
 unfold w09_DiffBack.f
 exact lo
instance w09_DiffBack.mI {a0 a1 a2 k} : LeC (w09_DiffBack.f k a0 a1 a2) (w09_DiffBack.f (k + 1) a0 a1 a2) := ⟨w09_DiffBack.mono _ _ _ _⟩
theorem w09_DiffBack.calls (k : Nat) (A0 : Option Addr) (c0 : Nat) (l0 : List (S45)) (A1 : Option Addr) (c1 : Nat) (l1 : List (S45)) (A2 : Option Addr) (c2 : Nat) (l2 : List (S48)) (r : Bool) (w : World) (hr0 : Kd.C k45 w A0 l0.length l0) (hc0 : l0.length ≤ c0) (hr1 : Kd.C k45 w A1 l1.length l1) (hc1 : l1.length ≤ c1) (hr2 : Kd.C k48 w A2 l2.length l2) (hc2 : l2.length ≤ c2) (hL : LD w) (h : w09_DiffBack.f k l0 l1 l2 = some r) :
 Calls Tryz.prog 6 #[.slice A0 l0.length c0, .slice A1 l1.length c1, .slice A2 l2.length c2] w fun e w' => e = .returned (.bool r) ∧ Below w.heap.size w w' := by
 have HL0 := Aside0.mk hL
 clear hL
 have HR0 := Aside0.mk hr0
 have HC0 := Aside0.mk hc0
 clear hr0 hc0
 have HR1 := Aside0.mk hr1
 have HC1 := Aside0.mk hc1
 clear hr1 hc1
 have HR2 := Aside0.mk hr2
 have HC2 := Aside0.mk hc2
 clear hr2 hc2
 have HB := Aside0.mk (Below.refl w.heap.size w)
 have H : ((w09_alive.f k).bind fun t612 => (if t612 = true then ((r08_Great.f k l0).bind fun t613 => (if t613 = true then (w09_DiffBack.j0 k l0 l1 l2 true) else ((r08_Great.f k l1).bind fun t614 => (if t614 = true then (w09_DiffBack.j0 k l0 l1 l2 true) else ((r09_Great.f k l2).bind fun t615 => (w09_DiffBack.j0 k l0 l1 l2 t615)))))) else (none))) = some r := h
 clear h
 obtain ⟨t612, A4, H⟩ := bs H
 try dsimp only at H
 by_cases c5 : t612 = true
 ·
  subst c5
  rw [if_pos rfl] at H
  have HC6 := Aside0.mk H
  clear H
  go_enter Tryz.func6, Tryz.ntmps6
  go_upto_region 3 with (first | (refine gL (some 13) rfl Tryz.func8 #[] ?_; (with_reducible refine (w09_alive.calls (hL := ld) k  true _ A4.out).mono ?_); rintro e w7 ⟨rfl, hb⟩; refine ⟨_, rfl, ?_⟩; replace HB := cW HB hb; (try clear hb)))
  (try simp only [Act.put, List.setIfInBounds_toArray, List.set_cons_zero, List.set_cons_succ])
  go_cut [24] (fun v24 wc => ∃ (kq : Nat) (x24_5 : Bool), v24 = .bool x24_5 ∧ Aside0 (w09_DiffBack.j0 kq l0 l1 l2 x24_5 = some r) ∧ Aside0 (kq ≤ k) ∧ Aside0 (Below w.heap.size w wc))
  case first =>
   have H := HC6.out
   clear HC6
   obtain ⟨t613, A8, H⟩ := bs H
   try dsimp only at H
   by_cases c9 : t613 = true
   ·
    subst c9
    rw [if_pos rfl] at H
    have H' := Aside0.mk H
    clear H
    go_wp2_with (first | (refine gL (some 16) rfl Tryz.func9 #[.slice A0 l0.length c0] ?_; (with_reducible refine (r08_Great.calls k _ _ l0 true _ ?side1 ?side2 A8.out).mono ?_); (case side1 => exact uC <| (Kd.C_below HR0.out HB.out)); (case side2 => exact HC0.out); rintro e w' ⟨rfl, ⟨nd, rfl⟩⟩; refine ⟨_, rfl, ?_⟩))
    go_meet
    case rel => exact ⟨_, (true), rs_, H', ⟨by first | omega | exact Nat.le_refl _⟩, ⟨uW HB.out⟩⟩
   ·
    replace c9 := Bool.eq_false_iff.mpr c9
    subst c9
    rw [if_neg (show ¬ (false = true) by decide)] at H
    obtain ⟨t614, A10, H⟩ := bs H
    try dsimp only at H
    by_cases c11 : t614 = true
    ·
     subst c11
     rw [if_pos rfl] at H
     have H' := Aside0.mk H
     clear H
     go_wp2_with (first | (refine gL (some 16) rfl Tryz.func9 #[.slice A0 l0.length c0] ?_; (with_reducible refine (r08_Great.calls k _ _ l0 false _ ?side1 ?side2 A8.out).mono ?_); (case side1 => exact uC <| (Kd.C_below HR0.out HB.out)); (case side2 => exact HC0.out); rintro e w' ⟨rfl, ⟨nd, rfl⟩⟩; refine ⟨_, rfl, ?_⟩) | (go_at_call 9; (with_reducible refine (r08_Great.calls k _ _ l1 true _ ?side1 ?side2 A10.out).mono ?_); (case side1 => exact (Kd.C_below HR1.out (uW HB.out))); (case side2 => exact HC1.out); rintro e w' ⟨rfl, ⟨nd, rfl⟩⟩))
     go_meet
     case rel => exact ⟨_, (true), rs_, H', ⟨by first | omega | exact Nat.le_refl _⟩, ⟨uW HB.out⟩⟩
    ·
     replace c11 := Bool.eq_false_iff.mpr c11
     subst c11
     rw [if_neg (show ¬ (false = true) by decide)] at H
     obtain ⟨t615, A12, H⟩ := bs H
     try dsimp only at H
     have H' := Aside0.mk H
     clear H
     go_wp2_with (first | (refine gL (some 16) rfl Tryz.func9 #[.slice A0 l0.length c0] ?_; (with_reducible refine (r08_Great.calls k _ _ l0 false _ ?side1 ?side2 A8.out).mono ?_); (case side1 => exact uC <| (Kd.C_below HR0.out HB.out)); (case side2 => exact HC0.out); rintro e w' ⟨rfl, ⟨nd, rfl⟩⟩; refine ⟨_, rfl, ?_⟩) | (go_at_call 9; (with_reducible refine (r08_Great.calls k _ _ l1 false _ ?side1 ?side2 A10.out).mono ?_); (case side1 => exact (Kd.C_below HR1.out (uW HB.out))); (case side2 => exact HC1.out); rintro e w' ⟨rfl, ⟨nd, rfl⟩⟩) | (go_at_call 16; (with_reducible refine (r09_Great.calls k _ _ l2 t615 _ ?side1 ?side2 A12.out).mono ?_); (case side1 => exact (Kd.C_below HR2.out (uW HB.out))); (case side2 => exact HC2.out); rintro e w' ⟨rfl, ⟨nd, rfl⟩⟩))
     go_meet
     case rel => exact ⟨_, (t615), rs_, H', ⟨by first | omega | exact Nat.le_refl _⟩, ⟨uW HB.out⟩⟩
  case rest =>
   clear HC6
   try clear c1
   try clear c2
   try clear p2
   try clear c5
   try clear c6
   try clear c8
   try clear c9
   try clear c11
   obtain ⟨kq, x24_5, rfl, HA, HJ5, HB⟩ := hcut
   cases kq with
   | zero => exact absurd HA.out (by simp [w09_DiffBack.j0])
   | succ kj5 =>
    have H := HA.out
    clear HA
    simp only [w09_DiffBack.j0] at H
    by_cases c13 : x24_5 = true
    ·
     subst c13
     rw [if_pos rfl] at H
     obtain rfl := Option.some.inj H
     go_wp2
     go_ret
     exact ⟨re_, uW HB.out⟩
    ·
     replace c13 := Bool.eq_false_iff.mpr c13
     subst c13
     rw [if_neg (show ¬ (false = true) by decide)] at H
     obtain ⟨t616, A14, H⟩ := bs H
     try dsimp only at H
     have HC15 := Aside0.mk H
     clear H
     go_upto_if 26 with (first | (refine gL (some 26) rfl Tryz.func22 #[.slice A2 l2.length c2] ?_; (with_reducible refine (r09_Right.calls kj5 _ _ l2 t616 _ ?side1 ?side2 A14.out).mono ?_); (case side1 => exact uC <| (Kd.C_below HR2.out HB.out)); (case side2 => exact HC2.out); rintro e w16 ⟨rfl, hb⟩; refine ⟨_, rfl, ?_⟩; replace HB := cW HB hb; (try clear hb)))
     (try simp only [Act.put, List.setIfInBounds_toArray, List.set_cons_zero, List.set_cons_succ])
     go_cut [] (fun wc => ∃ (kq : Nat), Aside0 (w09_DiffBack.j1 kq l0 l1 = some r) ∧ Aside0 (kq ≤ kj5) ∧ Aside0 (Below w.heap.size w wc))
     case first =>
      have H := HC15.out
      clear HC15
      by_cases c17 : t616 = true
      ·
       subst c17
       rw [if_pos rfl] at H
       obtain ⟨t617, A18, H⟩ := bs H
       try dsimp only at H
       obtain ⟨⟨t618, t619⟩, A19, H⟩ := bs H
       try dsimp only at H
       obtain ⟨c20, H⟩ := gd H
       have c20b0 : (t619 == 0) = true := beq_iff_eq.mpr c20
       have c20b1 : (t619 != 0) = false := bne_eq_false_iff_eq.mpr c20
       clear c20
       (first | rw [c20b0] | (simp only [i64_w, i32_w]; rw [c20b0]) | skip)
       obtain ⟨t622, A21, H⟩ := bs H
       try dsimp only at H
       by_cases c22 : t622 = true
       ·
        subst c22
        rw [if_pos rfl] at H
        have H' := Aside0.mk H
        clear H
        go_wp2_with (first | (refine gL (some 29) rfl Tryz.func14 #[.slice A2 l2.length c2] ?_; (with_reducible refine (diff_Text.calls (hL := ld) kj5 _ _ l2 t617 _ ?side1 ?side2 A18.out).mono ?_); (case side1 => exact uC <| (Kd.C_below HR2.out HB.out)); (case side2 => exact HC2.out); rintro e w23 ⟨rfl, hb⟩; refine ⟨_, rfl, ?_⟩; replace HB := cW HB hb; (try clear hb)) | (refine gL (some 30) rfl Tryz.func20 #[.string t617] ?_; (with_reducible refine (diff_Parse.calls (hL := ld) kj5 t617 t618 t619 _ A19.out).mono ?_); rintro e w24 ⟨v620, rfl, ho0, hb⟩; refine ⟨_, rfl, ?_⟩; have HO621 := Aside0.mk (Kd.R_lower ho0 (below_size (uW HB.out))); replace HB := cW HB hb; (try clear hb); (try clear ho0); obtain ⟨Ao25, co25, eo25⟩ := Kd.R_slice HO621.out; subst eo25) | (go_at_call 12; (with_reducible refine (r09_Same.calls kj5 _ _ t618 _ _ l2 true _ ?side1 ?side2 ?side3 ?side4 A21.out).mono ?_); (case side1 => exact uC <| (Kd.R_reads' HO621.out).2.2); (case side2 => exact (Kd.R_reads' HO621.out).2.1); (case side3 => exact uC <| (Kd.C_below HR2.out HB.out)); (case side4 => exact HC2.out); rintro e w' ⟨rfl, ⟨nd, rfl⟩⟩))
        go_meet
        case rel => exact ⟨_, H', ⟨by have := HJ5.out; first | omega | exact Nat.le_refl _⟩, ⟨uW HB.out⟩⟩
       ·
        replace c22 := Bool.eq_false_iff.mpr c22
        subst c22
        rw [if_neg (show ¬ (false = true) by decide)] at H
        exact absurd H (by simp)
      ·
       replace c17 := Bool.eq_false_iff.mpr c17
       subst c17
       rw [if_neg (show ¬ (false = true) by decide)] at H
       have H' := Aside0.mk H
       clear H
       go_wp2
       go_meet
       case rel => exact ⟨_, H', ⟨by have := HJ5.out; first | omega | exact Nat.le_refl _⟩, ⟨uW HB.out⟩⟩
     case rest =>
      clear HC15
      try clear c1
      try clear c2
      try clear p2
      try clear c5
      try clear c6
      try clear c8
      try clear c9
      try clear c11
      try clear c13
      try clear c14
      try clear c17
      try clear c20
      try clear c20b0
      try clear c20b1
      try clear c22
      try clear p2
      obtain ⟨kq, HA, HJ14, HB⟩ := hcut
      cases kq with
      | zero => exact absurd HA.out (by simp [w09_DiffBack.j1])
      | succ kj14 =>
       have H := HA.out
       clear HA
       simp only [w09_DiffBack.j1] at H
       obtain ⟨⟨t623, t626⟩, A26, H⟩ := bs H
       try dsimp only at H
       by_cases c27 : t626 = 0
       ·
        rw [if_pos c27] at H
        have c27b0 : (t626 == 0) = true := beq_iff_eq.mpr c27
        have c27b1 : (t626 != 0) = false := bne_eq_false_iff_eq.mpr c27
        clear c27
        obtain ⟨⟨t627, t630⟩, A28, H⟩ := bs H
        try dsimp only at H
        obtain ⟨c29, H⟩ := gd H
        have c29b0 : (t630 == 0) = true := beq_iff_eq.mpr c29
        have c29b1 : (t630 != 0) = false := bne_eq_false_iff_eq.mpr c29
        clear c29
        obtain ⟨t631, A30, H⟩ := bs H
        try dsimp only at H
        by_cases c31 : t631 = true
        ·
         subst c31
         rw [if_pos rfl] at H
         obtain ⟨t632, A32, H⟩ := bs H
         try dsimp only at H
         obtain ⟨c33, H⟩ := gd H
         have c33b0 : (((t623.length : Int) == 0) == t632) = true := c33
         (try (have c33b1 : decide (((t623.length : Int) == 0) = t632) = true := by simpa using c33))
         (try (have c33b2 : (((t623.length : Int) == 0) == t632) = true := by simpa using c33))
         clear c33
         obtain ⟨t633, A34, H⟩ := bs H
         try dsimp only at H
         obtain rfl := Option.some.inj H
         go_wp2_with (first | (refine gL (some 44) rfl Tryz.func10 #[.slice A0 l0.length c0, .slice A1 l1.length c1] ?_; (with_reducible refine (diff_Of.calls (hL := ld) kj14 (fun k_ => k_ < w.heap.size) _ _ l0 (fun k_ => k_ < w.heap.size) _ _ l1 t623 t626 _ ?side1 ?side2 A26.out).mono ?_); (case side1 => exact Kd.V_mk HC0.out (Kd.F_below (Kd.C_F k45_heap HR0.out) (uW HB.out))); (case side2 => exact Kd.V_mk HC1.out (Kd.F_below (Kd.C_F k45_heap HR1.out) (uW HB.out))); rintro e w35 ⟨v624, rfl, ho0, hb⟩; refine ⟨_, rfl, ?_⟩; have HO625 := Aside0.mk (Kd.R_lower (Kd.R_mono (ok' := fun k_ => True) ho0 (fun _ hk_ => trivial)) (below_size (uW HB.out))); replace HB := cW HB hb; (try clear hb); (try clear ho0); obtain ⟨Ao36, co36, eo36⟩ := Kd.R_slice HO625.out; subst eo36) | (refine gL (some 55) rfl Tryz.func17 #[.slice A0 l0.length c0, .slice Ao36 t623.length co36] ?_; (with_reducible refine (diff_Apply.calls (hL := ld) kj14 (fun k_ => k_ < w.heap.size) _ _ l0 _ _ t623 t627 t630 _ ?side1 ?side2 ?side3 A28.out).mono ?_); (case side1 => exact Kd.V_mk HC0.out (Kd.F_below (Kd.C_F k45_heap HR0.out) (uW HB.out))); (case side2 => exact uC <| (Kd.R_reads' HO625.out).2.2); (case side3 => exact (Kd.R_reads' HO625.out).2.1); rintro e w37 ⟨v628, rfl, ho0, hb⟩; refine ⟨_, rfl, ?_⟩; replace HO625 := cR HO625 hb; have HO629 := Aside0.mk (Kd.R_lower (Kd.R_mono (ok' := fun k_ => True) ho0 (fun _ hk_ => trivial)) (below_size (uW HB.out))); replace HB := cW HB hb; (try clear hb); (try clear ho0); obtain ⟨Ao38, co38, eo38⟩ := Kd.R_slice HO629.out; subst eo38) | (go_at_call 13; (with_reducible refine (r08_Same.calls kj14 _ _ t627 _ _ l1 true _ ?side1 ?side2 ?side3 ?side4 A30.out).mono ?_); (case side1 => exact uC <| (Kd.R_reads' HO629.out).2.2); (case side2 => exact (Kd.R_reads' HO629.out).2.1); (case side3 => exact uC <| (Kd.C_below HR1.out HB.out)); (case side4 => exact HC1.out); rintro e w' ⟨rfl, ⟨nd, rfl⟩⟩) | (go_at_call 13; (with_reducible refine (r08_Same.calls kj14 _ _ l0 _ _ l1 t632 _ ?side1 ?side2 ?side3 ?side4 A32.out).mono ?_); (case side1 => exact (Kd.C_below HR0.out (uW HB.out))); (case side2 => exact HC0.out); (case side3 => exact (Kd.C_below HR1.out (uW HB.out))); (case side4 => exact HC1.out); rintro e w' ⟨rfl, ⟨nd, rfl⟩⟩) | (go_at_call 22; (with_reducible refine (r09_Right.calls kj14 _ _ t623 t633 _ ?side1 ?side2 A34.out).mono ?_); (case side1 => exact uC <| (Kd.R_reads' HO625.out).2.2); (case side2 => exact (Kd.R_reads' HO625.out).2.1); rintro e w39 ⟨rfl, hb⟩; replace HO625 := cR HO625 hb; replace HO629 := cR HO629 hb; replace HB := cW HB hb; (try clear hb)))
         go_ret
         exact ⟨re_, uW HB.out⟩
        ·
         replace c31 := Bool.eq_false_iff.mpr c31
         subst c31
         rw [if_neg (show ¬ (false = true) by decide)] at H
         exact absurd H (by simp)
       ·
        rw [if_neg c27] at H
        have c27b0 : (t626 == 0) = false := beq_eq_false_iff_ne.mpr c27
        have c27b1 : (t626 != 0) = true := bne_iff_ne.mpr c27
        obtain rfl := Option.some.inj H
        go_wp2_with (first | (refine gL (some 44) rfl Tryz.func10 #[.slice A0 l0.length c0, .slice A1 l1.length c1] ?_; (with_reducible refine (diff_Of.calls (hL := ld) kj14 (fun k_ => k_ < w.heap.size) _ _ l0 (fun k_ => k_ < w.heap.size) _ _ l1 t623 t626 _ ?side1 ?side2 A26.out).mono ?_); (case side1 => exact Kd.V_mk HC0.out (Kd.F_below (Kd.C_F k45_heap HR0.out) (uW HB.out))); (case side2 => exact Kd.V_mk HC1.out (Kd.F_below (Kd.C_F k45_heap HR1.out) (uW HB.out))); rintro e w40 ⟨v624, rfl, ho0, hb⟩; refine ⟨_, rfl, ?_⟩; have HO625 := Aside0.mk (Kd.R_lower (Kd.R_mono (ok' := fun k_ => True) ho0 (fun _ hk_ => trivial)) (below_size (uW HB.out))); replace HB := cW HB hb; (try clear hb); (try clear ho0); obtain ⟨Ao41, co41, eo41⟩ := Kd.R_slice HO625.out; subst eo41))
        go_ret
        exact ⟨re_, uW HB.out⟩
 ·
  replace c5 := Bool.eq_false_iff.mpr c5
  subst c5
  rw [if_neg (show ¬ (false = true) by decide)] at H
  exact absurd H (by simp)
def w09_DiffBack.Pure : Prop := ∀ (l0 : List (S45)) (l1 : List (S45)) (l2 : List (S48)), (l0.length ≤ maxLen ∧ ∀ x0_ ∈ l0, Q45 x0_) → l0.length * 40 ≤ 140737488351232 → (l1.length ≤ maxLen ∧ ∀ x0_ ∈ l1, Q45 x0_) → l1.length * 40 ≤ 140737488351232 → (l2.length ≤ maxLen ∧ ∀ x0_ ∈ l2, Q48 x0_) → l2.length * 48 ≤ 140737488351232 → ∃ k, w09_DiffBack.f k l0 l1 l2 = some true
theorem w09_DiffBack.walk (P : w09_DiffBack.Pure) (l0 : List (S45)) (l1 : List (S45)) (l2 : List (S48)) (w : World) (hL : LD w) (A0 : Option Addr) (c0 : Nat) (hr0 : Kd.C k45 w A0 l0.length l0) (hc0 : l0.length ≤ c0) (A1 : Option Addr) (c1 : Nat) (hr1 : Kd.C k45 w A1 l1.length l1) (hc1 : l1.length ≤ c1) (A2 : Option Addr) (c2 : Nat) (hr2 : Kd.C k48 w A2 l2.length l2) (hc2 : l2.length ≤ c2) (q0 : l0.length ≤ maxLen ∧ ∀ x0_ ∈ l0, Q45 x0_) (y0 : l0.length * 40 ≤ 140737488351232) (q1 : l1.length ≤ maxLen ∧ ∀ x0_ ∈ l1, Q45 x0_) (y1 : l1.length * 40 ≤ 140737488351232) (q2 : l2.length ≤ maxLen ∧ ∀ x0_ ∈ l2, Q48 x0_) (y2 : l2.length * 48 ≤ 140737488351232) :
 Calls Tryz.prog 6 #[.slice A0 l0.length c0, .slice A1 l1.length c1, .slice A2 l2.length c2] w fun e w' => e = .returned (.bool true) ∧ Below w.heap.size w w' := by
 obtain ⟨k, h⟩ := P l0 l1 l2 q0 y0 q1 y1 q2 y2
 refine (w09_DiffBack.calls (hL := hL) k A0 c0 l0 A1 c1 l1 A2 c2 l2 true w hr0 hc0 hr1 hc1 hr2 hc2 h).mono ?_
 rintro e w' ⟨rfl, hd⟩
 exact ⟨rfl, hd⟩
end Go.Proofs.YtgcbejidponoaaaGreatDoor.X
