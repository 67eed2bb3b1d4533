/- Printed by a program of this session's own: what functions of the program compute, and that the machine computes it. No condition of its own. -/
import Derived.Test.YtgcbejidponoaaaGreatDoorM3
import Derived.Test.YtgcbejidponoaaaGreatDoorM5
import Derived.Test.YtgcbejidponoaaaGreatDoorM7
import Derived.Test.YtgcbejidponoaaaGreatDoorM11
import Derived.Test.YtgcbejidponoaaaGreatDoorM12
import Derived.Test.YtgcbejidponoaaaGreatDoorM13
import Derived.Test.YtgcbejidponoaaaGreatDoorM14
namespace Go.Proofs.YtgcbejidponoaaaGreatDoor.X
open Go.RowKit Go.Proofs.YtgcbejidponoaaaGreatDoorW.PrintWords Go.Proofs.YtgcbejidponoaaaGreatDoorW.PrintLast Go.Proofs.YtgcbejidponoaaaGreatDoorW.PrintMore
attribute [local go_sem] max2_int min2_int max_two min_two max_three min_three max_four min_four
set_option linter.unusedVariables false
set_option linter.unusedSimpArgs false
set_option maxHeartbeats 8000000
set_option maxRecDepth 100000
def w09_DiffApplies.j0 : Nat → List (S45) → List (S48) → List (S48) → Bool → Option (Bool)
 | 0, _, _, _, _ => none
 | k + 1, x0, x1, x2, x23 => if x23 = true then (some true) else ((some (([] : List (S45)) : List (S45))).bind fun y717 => (if y717.length + x0.length < 3518437208883 then ((some (y717 ++ x0 : List (S45))).bind fun y720 => ((diff_Apply.f k y720 x1).bind fun bt723 => ((r09_Apply.f k x0 x1).bind fun bt727 => ((r08_Same.f k bt723.1 bt727.1).bind fun t731 => (if t731 = true then (if bt723.2 = bt727.2 then ((r08_Same.f k y720 x0).bind fun t732 => (if t732 = true then ((diff_Same.f k x1 x2).bind fun t733 => ((r09_Same.f k x1 x2).bind fun t734 => (if (t733 == t734) = true then ((diff_Text.f k x1).bind fun t735 => ((r09_Text.f k x1).bind fun t736 => (some (t735.toList == t736.toList)))) else (none)))) else (none))) else (none)) else (none)))))) else (none)))
def w09_DiffApplies.f (k : Nat) (l0 : List (S45)) (l1 : List (S48)) (l2 : List (S48)) : Option (Bool) := (w09_alive.f k).bind fun t713 => (if t713 = true then ((r08_Great.f k l0).bind fun t714 => (if t714 = true then (w09_DiffApplies.j0 k l0 l1 l2 true) else ((r09_Great.f k l1).bind fun t715 => (if t715 = true then (w09_DiffApplies.j0 k l0 l1 l2 true) else ((r09_Great.f k l2).bind fun t716 => (w09_DiffApplies.j0 k l0 l1 l2 t716)))))) else (none))
theorem w09_DiffApplies.mono_l : ∀ k, (∀ y0 y1 y2 y3, LeC (w09_DiffApplies.j0 k y0 y1 y2 y3) (w09_DiffApplies.j0 (k + 1) y0 y1 y2 y3))
 | 0 => fun _ _ _ _ => ⟨fun r h => by simp [w09_DiffApplies.j0] at h⟩
 | k + 1 => by have ih0 := w09_DiffApplies.mono_l k; exact fun _ _ _ _ => by unfold w09_DiffApplies.j0; exact lm
theorem w09_DiffApplies.mono : ∀ a0 a1 a2 k, LeO (w09_DiffApplies.f k a0 a1 a2) (w09_DiffApplies.f (k + 1) a0 a1 a2) := by
 intro a0 a1 a2 k
 have ih0 := w09_DiffApplies.mono_l k
 unfold w09_DiffApplies.f
 exact lo
instance w09_DiffApplies.mI {a0 a1 a2 k} : LeC (w09_DiffApplies.f k a0 a1 a2) (w09_DiffApplies.f (k + 1) a0 a1 a2) := ⟨w09_DiffApplies.mono _ _ _ _⟩
theorem w09_DiffApplies.calls (k : Nat) (A0 : Option Addr) (c0 : Nat) (l0 : List (S45)) (A1 : Option Addr) (c1 : Nat) (l1 : List (S48)) (A2 : Option Addr) (c2 : Nat) (l2 : List (S48)) (r : Bool) (w : World) (hr0 : Kd.C k45 w A0 l0.length l0) (hc0 : l0.length ≤ c0) (hr1 : Kd.C k48 w A1 l1.length l1) (hc1 : l1.length ≤ c1) (hr2 : Kd.C k48 w A2 l2.length l2) (hc2 : l2.length ≤ c2) (hL : LD w) (h : w09_DiffApplies.f k l0 l1 l2 = some r) :
 Calls Tryz.prog 4 #[.slice A0 l0.length c0, .slice A1 l1.length c1, .slice A2 l2.length c2] w fun e w' => e = .returned (.bool r) ∧ Below w.heap.size w w' := by
 have HL0 := Aside0.mk hL
 clear hL
 have HR0 := Aside0.mk hr0
 have HC0 := Aside0.mk hc0
 clear hr0 hc0
 have HR1 := Aside0.mk hr1
 have HC1 := Aside0.mk hc1
 clear hr1 hc1
 have HR2 := Aside0.mk hr2
 have HC2 := Aside0.mk hc2
 clear hr2 hc2
 have HB := Aside0.mk (Below.refl w.heap.size w)
 have H : ((w09_alive.f k).bind fun t713 => (if t713 = true then ((r08_Great.f k l0).bind fun t714 => (if t714 = true then (w09_DiffApplies.j0 k l0 l1 l2 true) else ((r09_Great.f k l1).bind fun t715 => (if t715 = true then (w09_DiffApplies.j0 k l0 l1 l2 true) else ((r09_Great.f k l2).bind fun t716 => (w09_DiffApplies.j0 k l0 l1 l2 t716)))))) else (none))) = some r := h
 clear h
 obtain ⟨t713, A4, H⟩ := bs H
 try dsimp only at H
 by_cases c5 : t713 = true
 ·
  subst c5
  rw [if_pos rfl] at H
  have HC6 := Aside0.mk H
  clear H
  go_enter Tryz.func4, Tryz.ntmps4
  go_upto_region 3 with (first | (refine gL (some 12) rfl Tryz.func8 #[] ?_; (with_reducible refine (w09_alive.calls (hL := ld) k  true _ A4.out).mono ?_); rintro e w7 ⟨rfl, hb⟩; refine ⟨_, rfl, ?_⟩; replace HB := cW HB hb; (try clear hb)))
  (try simp only [Act.put, List.setIfInBounds_toArray, List.set_cons_zero, List.set_cons_succ])
  go_cut [23] (fun v23 wc => ∃ (kq : Nat) (x23_5 : Bool), v23 = .bool x23_5 ∧ Aside0 (w09_DiffApplies.j0 kq l0 l1 l2 x23_5 = some r) ∧ Aside0 (kq ≤ k) ∧ Aside0 (Below w.heap.size w wc))
  case first =>
   have H := HC6.out
   clear HC6
   obtain ⟨t714, A8, H⟩ := bs H
   try dsimp only at H
   by_cases c9 : t714 = true
   ·
    subst c9
    rw [if_pos rfl] at H
    have H' := Aside0.mk H
    clear H
    go_wp2_with (first | (refine gL (some 15) rfl Tryz.func9 #[.slice A0 l0.length c0] ?_; (with_reducible refine (r08_Great.calls k _ _ l0 true _ ?side1 ?side2 A8.out).mono ?_); (case side1 => exact uC <| (Kd.C_below HR0.out HB.out)); (case side2 => exact HC0.out); rintro e w' ⟨rfl, ⟨nd, rfl⟩⟩; refine ⟨_, rfl, ?_⟩))
    go_meet
    case rel => exact ⟨_, (true), rs_, H', ⟨by first | omega | exact Nat.le_refl _⟩, ⟨uW HB.out⟩⟩
   ·
    replace c9 := Bool.eq_false_iff.mpr c9
    subst c9
    rw [if_neg (show ¬ (false = true) by decide)] at H
    obtain ⟨t715, A10, H⟩ := bs H
    try dsimp only at H
    by_cases c11 : t715 = true
    ·
     subst c11
     rw [if_pos rfl] at H
     have H' := Aside0.mk H
     clear H
     go_wp2_with (first | (refine gL (some 15) rfl Tryz.func9 #[.slice A0 l0.length c0] ?_; (with_reducible refine (r08_Great.calls k _ _ l0 false _ ?side1 ?side2 A8.out).mono ?_); (case side1 => exact uC <| (Kd.C_below HR0.out HB.out)); (case side2 => exact HC0.out); rintro e w' ⟨rfl, ⟨nd, rfl⟩⟩; refine ⟨_, rfl, ?_⟩) | (go_at_call 16; (with_reducible refine (r09_Great.calls k _ _ l1 true _ ?side1 ?side2 A10.out).mono ?_); (case side1 => exact (Kd.C_below HR1.out (uW HB.out))); (case side2 => exact HC1.out); rintro e w' ⟨rfl, ⟨nd, rfl⟩⟩))
     go_meet
     case rel => exact ⟨_, (true), rs_, H', ⟨by first | omega | exact Nat.le_refl _⟩, ⟨uW HB.out⟩⟩
    ·
     replace c11 := Bool.eq_false_iff.mpr c11
     subst c11
     rw [if_neg (show ¬ (false = true) by decide)] at H
     obtain ⟨t716, A12, H⟩ := bs H
     try dsimp only at H
     have H' := Aside0.mk H
     clear H
     go_wp2_with (first | (refine gL (some 15) rfl Tryz.func9 #[.slice A0 l0.length c0] ?_; (with_reducible refine (r08_Great.calls k _ _ l0 false _ ?side1 ?side2 A8.out).mono ?_); (case side1 => exact uC <| (Kd.C_below HR0.out HB.out)); (case side2 => exact HC0.out); rintro e w' ⟨rfl, ⟨nd, rfl⟩⟩; refine ⟨_, rfl, ?_⟩) | (go_at_call 16; (with_reducible refine (r09_Great.calls k _ _ l1 false _ ?side1 ?side2 A10.out).mono ?_); (case side1 => exact (Kd.C_below HR1.out (uW HB.out))); (case side2 => exact HC1.out); rintro e w' ⟨rfl, ⟨nd, rfl⟩⟩) | (go_at_call 16; (with_reducible refine (r09_Great.calls k _ _ l2 t716 _ ?side1 ?side2 A12.out).mono ?_); (case side1 => exact (Kd.C_below HR2.out (uW HB.out))); (case side2 => exact HC2.out); rintro e w' ⟨rfl, ⟨nd, rfl⟩⟩))
     go_meet
     case rel => exact ⟨_, (t716), rs_, H', ⟨by first | omega | exact Nat.le_refl _⟩, ⟨uW HB.out⟩⟩
  case rest =>
   clear HC6
   try clear c1
   try clear c2
   try clear p2
   try clear c4
   try clear c5
   try clear c8
   try clear c9
   try clear c11
   obtain ⟨kq, x23_5, rfl, HA, HJ5, HB⟩ := hcut
   cases kq with
   | zero => exact absurd HA.out (by simp [w09_DiffApplies.j0])
   | succ kj5 =>
    have H := HA.out
    clear HA
    simp only [w09_DiffApplies.j0] at H
    by_cases c13 : x23_5 = true
    ·
     subst c13
     rw [if_pos rfl] at H
     obtain rfl := Option.some.inj H
     go_wp2
     go_ret
     exact ⟨re_, uW HB.out⟩
    ·
     replace c13 := Bool.eq_false_iff.mpr c13
     subst c13
     rw [if_neg (show ¬ (false = true) by decide)] at H
     obtain ⟨y717, Ny717, H⟩ := ys H
     try dsimp only at H
     obtain ⟨c14, H⟩ := gd H
     have LMc14 := Aside0.mk c14
     clear c14
     obtain ⟨y720, Ny720, H⟩ := ys H
     try dsimp only at H
     obtain ⟨⟨t723, t726⟩, A15, H⟩ := bs H
     try dsimp only at H
     obtain ⟨⟨t727, t728⟩, A16, H⟩ := bs H
     try dsimp only at H
     obtain ⟨t731, A17, H⟩ := bs H
     try dsimp only at H
     by_cases c18 : t731 = true
     ·
      subst c18
      rw [if_pos rfl] at H
      obtain ⟨c19, H⟩ := gd H
      have c19b0 : (t726 == t728) = true := beq_iff_eq.mpr c19
      have c19b1 : (t726 != t728) = false := bne_eq_false_iff_eq.mpr c19
      clear c19
      obtain ⟨t732, A20, H⟩ := bs H
      try dsimp only at H
      by_cases c21 : t732 = true
      ·
       subst c21
       rw [if_pos rfl] at H
       obtain ⟨t733, A22, H⟩ := bs H
       try dsimp only at H
       obtain ⟨t734, A23, H⟩ := bs H
       try dsimp only at H
       obtain ⟨c24, H⟩ := gd H
       have c24b0 : (t733 == t734) = true := c24
       (try (have c24b1 : decide (t733 = t734) = true := by simpa using c24))
       (try (have c24b2 : (t733 == t734) = true := by simpa using c24))
       clear c24
       obtain ⟨t735, A25, H⟩ := bs H
       try dsimp only at H
       obtain ⟨t736, A26, H⟩ := bs H
       try dsimp only at H
       obtain rfl := Option.some.inj H
       go_wp2_with (first | ((with_reducible refine gate_dst (N := 24) rfl ?_); refine Kd.R_lit k45 _ 45 ?hg (N := 24) ?hd (xs := ([] : List (S45))) (inner := []) (ok := fun _ => True) (okp := fun _ => True) ?hr ?hp (fun _ hk => hk) trivial (Below.refl _ _) (Nat.le_refl _) (by simp) ?_; (case hd => rfl); (case hg => rfl); (case hr => first | (go_simp; done) | (go_simp; rfl)); (case hp => exact (Reps.none _ _)); intro v718 w27 ho28 hb hg_ hnew_; clear hg_ hnew_; (first | rw [← Ny717.out] at ho28 | (simp only [Int.reduceToNat] at ho28; rw [← Ny717.out] at ho28)); have HO719 := Aside0.mk (Kd.R_lower ho28 (below_size (uW HB.out))); replace HB := cW HB hb; clear hb ho28) | ((with_reducible refine gate_builtin (b := .append) (xs := #[.tmp 24, .tmp 25]) rfl ?_); at_builtin; refine Kd.R_append_rows k45 (w0 := w) w.heap.size rfl (.tmp 24) (.tmp 25) 22 45 (.agg #[(.int .i64 0), (.string ⟨#[]⟩), (.int .i64 0), (.bool false)]) 40 rfl Tryz.underlying22 info45 rfl (by decide) (by omega) v718 y717 l0 _ _ _ (fun _ => True) (fun _ => False) rfl rfl ?aO ?aR (fun _ _ h => h) (fun _ h => h.elim) ?aF ?aB ?aS ?aL ?_; (case aR => exact uC <| (Kd.C_below HR0.out HB.out)); (case aB => exact (uW HB.out)); (case aF => exact (fun _ _ => trivial)); (case aO => exact (uR HO719.out)); (case aS => exact (below_size (uW HB.out))); (case aL => have := LMc14.out; omega); intro v721 w29 ho hb hg hat; rw [← Ny720.out] at ho; replace HB := Aside0.mk (hb); have HO722 := Aside0.mk (ho); clear HO719; clear ho hb hg hat; obtain ⟨Ao30, co30, eo30⟩ := Kd.R_slice HO722.out; subst eo30) | (refine gL (some 30) rfl Tryz.func17 #[.slice Ao30 y720.length co30, .slice A1 l1.length c1] ?_; (with_reducible refine (diff_Apply.calls (hL := ld) kj5 (fun k_ => some k_ = (.slice Ao30 y720.length co30 : Value).ownBlock) _ _ y720 _ _ l1 t723 t726 _ ?side1 ?side2 ?side3 A15.out).mono ?_); (case side1 => exact Kd.R_V (Kd.R_tight rfl (HO722.out))); (case side2 => exact uC <| (Kd.C_below HR1.out HB.out)); (case side3 => exact HC1.out); rintro e w31 ⟨v724, rfl, ho0, hb⟩; refine ⟨_, rfl, ?_⟩; have HO725 := Aside0.mk (Kd.R_lower (Kd.R_new' (Kd.R_mono (ok' := fun k_ => True) ho0 (fun _ hk_ => trivial)) (Kd.R_lt (uR HO722.out))) (below_size (uW HB.out))); replace HO722 := Aside0.mk (Kd.R_elder' (uR HO722.out) (Kd.R_base ho0) hb); replace HB := cW HB hb; (try clear hb); (try clear ho0)) | (refine gL (some 36) rfl Tryz.func18 #[.slice A0 l0.length c0, .slice A1 l1.length c1] ?_; (with_reducible refine (r09_Apply.calls kj5 _ _ l0 _ _ l1 t727 t728 _ ?side1 ?side2 ?side3 ?side4 A16.out).mono ?_); (case side1 => exact uC <| (Kd.C_below HR0.out HB.out)); (case side2 => exact HC0.out); (case side3 => exact uC <| (Kd.C_below HR1.out HB.out)); (case side4 => exact HC1.out); rintro e w32 ⟨v729, rfl, ho0, hb⟩; refine ⟨_, rfl, ?_⟩; have HO730 := Aside0.mk (Kd.R_lower (Kd.R_new' (Kd.R_new' ho0 (Kd.R_lt (uR HO722.out))) (Kd.R_lt (uR HO725.out))) (below_size (uW HB.out))); replace HO722 := Aside0.mk (Kd.R_elder' (uR HO722.out) (Kd.R_base ho0) hb); replace HO725 := Aside0.mk (Kd.R_elder' (uR HO725.out) (Kd.R_base ho0) hb); replace HB := cW HB hb; (try clear hb); (try clear ho0); obtain ⟨Ao33, co33, eo33⟩ := Kd.R_slice HO725.out; subst eo33; obtain ⟨Ao34, co34, eo34⟩ := Kd.R_slice HO730.out; subst eo34) | (refine gL (some 41) rfl Tryz.func13 #[.slice Ao33 t723.length co33, .slice Ao34 t727.length co34] ?_; (with_reducible refine (r08_Same.calls kj5 _ _ t723 _ _ t727 true _ ?side1 ?side2 ?side3 ?side4 A17.out).mono ?_); (case side1 => exact uC <| (Kd.R_reads' HO725.out).2.2); (case side2 => exact (Kd.R_reads' HO725.out).2.1); (case side3 => exact uC <| (Kd.R_reads' HO730.out).2.2); (case side4 => exact (Kd.R_reads' HO730.out).2.1); rintro e w' ⟨rfl, ⟨nd, rfl⟩⟩; refine ⟨_, rfl, ?_⟩) | (go_at_call 13; (with_reducible refine (r08_Same.calls kj5 _ _ y720 _ _ l0 true _ ?side1 ?side2 ?side3 ?side4 A20.out).mono ?_); (case side1 => exact uC <| (Kd.R_reads' HO722.out).2.2); (case side2 => exact (Kd.R_reads' HO722.out).2.1); (case side3 => exact (Kd.C_below HR0.out (uW HB.out))); (case side4 => exact HC0.out); rintro e w' ⟨rfl, ⟨nd, rfl⟩⟩) | (go_at_call 19; (with_reducible refine (diff_Same.calls kj5 _ _ l1 _ _ l2 t733 _ ?side1 ?side2 ?side3 ?side4 A22.out).mono ?_); (case side1 => exact (Kd.C_below HR1.out (uW HB.out))); (case side2 => exact HC1.out); (case side3 => exact (Kd.C_below HR2.out (uW HB.out))); (case side4 => exact HC2.out); rintro e w' ⟨rfl, ⟨nd, rfl⟩⟩) | (go_at_call 12; (with_reducible refine (r09_Same.calls kj5 _ _ l1 _ _ l2 t734 _ ?side1 ?side2 ?side3 ?side4 A23.out).mono ?_); (case side1 => exact (Kd.C_below HR1.out (uW HB.out))); (case side2 => exact HC1.out); (case side3 => exact (Kd.C_below HR2.out (uW HB.out))); (case side4 => exact HC2.out); rintro e w' ⟨rfl, ⟨nd, rfl⟩⟩) | (go_at_call 14; (with_reducible refine (diff_Text.calls (hL := ld) kj5 _ _ l1 t735 _ ?side1 ?side2 A25.out).mono ?_); (case side1 => exact (Kd.C_below HR1.out (uW HB.out))); (case side2 => exact HC1.out); rintro e w35 ⟨rfl, hb⟩; replace HO722 := cR HO722 hb; replace HO725 := cR HO725 hb; replace HO730 := cR HO730 hb; replace HB := cW HB hb; (try clear hb)) | (go_at_call 15; (with_reducible refine (r09_Text.calls kj5 _ _ l1 t736 _ ?side1 ?side2 A26.out).mono ?_); (case side1 => exact uC <| (Kd.C_below HR1.out HB.out)); (case side2 => exact HC1.out); rintro e w36 ⟨rfl, hb⟩; replace HO722 := cR HO722 hb; replace HO725 := cR HO725 hb; replace HO730 := cR HO730 hb; replace HB := cW HB hb; (try clear hb)))
       go_ret
       exact ⟨re_, uW HB.out⟩
      ·
       replace c21 := Bool.eq_false_iff.mpr c21
       subst c21
       rw [if_neg (show ¬ (false = true) by decide)] at H
       exact absurd H (by simp)
     ·
      replace c18 := Bool.eq_false_iff.mpr c18
      subst c18
      rw [if_neg (show ¬ (false = true) by decide)] at H
      exact absurd H (by simp)
 ·
  replace c5 := Bool.eq_false_iff.mpr c5
  subst c5
  rw [if_neg (show ¬ (false = true) by decide)] at H
  exact absurd H (by simp)
def w09_DiffApplies.Pure : Prop := ∀ (l0 : List (S45)) (l1 : List (S48)) (l2 : List (S48)), (l0.length ≤ maxLen ∧ ∀ x0_ ∈ l0, Q45 x0_) → l0.length * 40 ≤ 140737488351232 → (l1.length ≤ maxLen ∧ ∀ x0_ ∈ l1, Q48 x0_) → l1.length * 48 ≤ 140737488351232 → (l2.length ≤ maxLen ∧ ∀ x0_ ∈ l2, Q48 x0_) → l2.length * 48 ≤ 140737488351232 → ∃ k, w09_DiffApplies.f k l0 l1 l2 = some true
theorem w09_DiffApplies.walk (P : w09_DiffApplies.Pure) (l0 : List (S45)) (l1 : List (S48)) (l2 : List (S48)) (w : World) (hL : LD w) (A0 : Option Addr) (c0 : Nat) (hr0 : Kd.C k45 w A0 l0.length l0) (hc0 : l0.length ≤ c0) (A1 : Option Addr) (c1 : Nat) (hr1 : Kd.C k48 w A1 l1.length l1) (hc1 : l1.length ≤ c1) (A2 : Option Addr) (c2 : Nat) (hr2 : Kd.C k48 w A2 l2.length l2) (hc2 : l2.length ≤ c2) (q0 : l0.length ≤ maxLen ∧ ∀ x0_ ∈ l0, Q45 x0_) (y0 : l0.length * 40 ≤ 140737488351232) (q1 : l1.length ≤ maxLen ∧ ∀ x0_ ∈ l1, Q48 x0_) (y1 : l1.length * 48 ≤ 140737488351232) (q2 : l2.length ≤ maxLen ∧ ∀ x0_ ∈ l2, Q48 x0_) (y2 : l2.length * 48 ≤ 140737488351232) :
 Calls Tryz.prog 4 #[.slice A0 l0.length c0, .slice A1 l1.length c1, .slice A2 l2.length c2] w fun e w' => e = .returned (.bool true) ∧ Below w.heap.size w w' := by
 obtain ⟨k, h⟩ := P l0 l1 l2 q0 y0 q1 y1 q2 y2
 refine (w09_DiffApplies.calls (hL := hL) k A0 c0 l0 A1 c1 l1 A2 c2 l2 true w hr0 hc0 hr1 hc1 hr2 hc2 h).mono ?_
 rintro e w' ⟨rfl, hd⟩
 exact ⟨rfl, hd⟩
end Go.Proofs.YtgcbejidponoaaaGreatDoor.X
