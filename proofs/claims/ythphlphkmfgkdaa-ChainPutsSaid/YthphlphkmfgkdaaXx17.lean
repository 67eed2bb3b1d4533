/- Printed by a program of this session's own: what functions of the program compute, and that the machine computes it. -/
import Derived.Test.YthphlphkmfgkdaaXx0
import Derived.Test.YthphlphkmfgkdaaXx5
import Derived.Test.YthphlphkmfgkdaaXx8
import Derived.Test.YthphlphkmfgkdaaXx12
import Derived.Test.YthphlphkmfgkdaaXx13
import Derived.Test.YthphlphkmfgkdaaXx15
import Derived.Test.YthphlphkmfgkdaaXx16
namespace Go.Proofs.Ythphlphkmfgkdaa.X
open Go.RowKit Go.Proofs.YthphlphkmfgkdaaW.PrintWords Go.Proofs.YthphlphkmfgkdaaW.PrintLast Go.Proofs.YthphlphkmfgkdaaW.PrintMore
attribute [local go_sem] max2_int min2_int max_two min_two max_three min_three max_four min_four   -- for this text's walks alone
set_option linter.unusedVariables false
set_option linter.unusedSimpArgs false

/-! ### ebbtidelaw10_ChainPuts: function 4 -/
def ebbtidelaw10_ChainPuts.j0 : Nat → List (S40) → List (S40) → Int → Bool → Option (Bool)
  | 0, _, _, _, _ => none
  | k + 1, x0, x1, x2, x30 => if x30 = true then (some true) else ((some (([] : List (S40)) : List (S40))).bind fun y357 => (if y357.length + x0.length < 2932031007402 then ((some (y357 ++ x0 : List (S40))).bind fun y360 => ((chain_Put.f k y360 x1).bind fun bt363 => ((ebbtideref10_Put.f k x0 x1).bind fun bt367 => (if 0 < (x1.length : Int) then ((chain_Fold.f k y360 ((rd_T40 x1 0).f0) x2).bind fun bt372 => ((ebbtideref10_Fold.f k x0 ((rd_T40 x1 0).f0) x2).bind fun bt377 => ((ebbtideref10_Same.f k bt363.1 bt367.1).bind fun t381 => (if t381 = true then (if bt363.2 = bt367.2 then ((ebbtideref10_Same.f k bt372.1 bt377.1).bind fun t382 => (if t382 = true then (if bt372.2 = bt377.2 then ((ebbtideref10_Same.f k y360 x0).bind fun t383 => (some t383)) else (none)) else (none))) else (none)) else (none))))) else (none))))) else (none)))
def ebbtidelaw10_ChainPuts.f (k : Nat) (l0 : List (S40)) (l1 : List (S40)) (a2 : Int) : Option (Bool) := (ebbtidelaw10_alive.f k).bind fun t356 => (if t356 = true then (if (l0.length : Int) > 200 then (ebbtidelaw10_ChainPuts.j0 k l0 l1 a2 true) else (if (l1.length : Int) > 200 then (ebbtidelaw10_ChainPuts.j0 k l0 l1 a2 true) else (ebbtidelaw10_ChainPuts.j0 k l0 l1 a2 ((l1.length : Int) == 0)))) else (none))
theorem ebbtidelaw10_ChainPuts.mono_l : ∀ k, (∀ y0 y1 y2 y3, LeO (ebbtidelaw10_ChainPuts.j0 k y0 y1 y2 y3) (ebbtidelaw10_ChainPuts.j0 (k + 1) y0 y1 y2 y3))
  | 0 => fun _ _ _ _ r h => by simp [ebbtidelaw10_ChainPuts.j0] at h
  | k + 1 => by
    have ih0 := ebbtidelaw10_ChainPuts.mono_l k
    · intro y0 y1 y2 y3
      unfold ebbtidelaw10_ChainPuts.j0
      repeat' first
      | (with_reducible exact ih0 _ _ _ _)
      | (with_reducible exact chain_Fold.mono _ _ _ _)
      | (with_reducible exact chain_Put.mono _ _ _)
      | (with_reducible exact ebbtidelaw10_alive.mono _)
      | (with_reducible exact ebbtideref10_Fold.mono _ _ _ _)
      | (with_reducible exact ebbtideref10_Put.mono _ _ _)
      | (with_reducible exact ebbtideref10_Same.mono _ _ _)
      | (with_reducible exact LeO.refl _)
      | (with_reducible exact LeO.none _)
      | (with_reducible refine LeO.ite ?_ ?_)
      | (with_reducible refine LeO.bind ?_ (fun _ => ?_))
      | exact ih0 _ _ _ _
      | exact chain_Fold.mono _ _ _ _
      | exact chain_Put.mono _ _ _
      | exact ebbtidelaw10_alive.mono _
      | exact ebbtideref10_Fold.mono _ _ _ _
      | exact ebbtideref10_Put.mono _ _ _
      | exact ebbtideref10_Same.mono _ _ _
      | exact LeO.none _
      | refine LeO.ite ?_ ?_
      | refine LeO.bind ?_ (fun _ => ?_)
theorem ebbtidelaw10_ChainPuts.mono : ∀ a0 a1 a2 k, LeO (ebbtidelaw10_ChainPuts.f k a0 a1 a2) (ebbtidelaw10_ChainPuts.f (k + 1) a0 a1 a2) := by
  intro a0 a1 a2 k
  have ih0 := ebbtidelaw10_ChainPuts.mono_l k
  unfold ebbtidelaw10_ChainPuts.f
  repeat' first
      | (with_reducible exact ih0 _ _ _ _)
      | (with_reducible exact chain_Fold.mono _ _ _ _)
      | (with_reducible exact chain_Put.mono _ _ _)
      | (with_reducible exact ebbtidelaw10_alive.mono _)
      | (with_reducible exact ebbtideref10_Fold.mono _ _ _ _)
      | (with_reducible exact ebbtideref10_Put.mono _ _ _)
      | (with_reducible exact ebbtideref10_Same.mono _ _ _)
      | (with_reducible exact LeO.refl _)
      | (with_reducible exact LeO.none _)
      | (with_reducible refine LeO.ite ?_ ?_)
      | (with_reducible refine LeO.bind ?_ (fun _ => ?_))
      | exact ih0 _ _ _ _
      | exact chain_Fold.mono _ _ _ _
      | exact chain_Put.mono _ _ _
      | exact ebbtidelaw10_alive.mono _
      | exact ebbtideref10_Fold.mono _ _ _ _
      | exact ebbtideref10_Put.mono _ _ _
      | exact ebbtideref10_Same.mono _ _ _
      | exact LeO.none _
      | refine LeO.ite ?_ ?_
      | refine LeO.bind ?_ (fun _ => ?_)
set_option maxHeartbeats 8000000 in
set_option maxRecDepth 100000 in
theorem ebbtidelaw10_ChainPuts.calls (k : Nat) (A0 : Option Addr) (c0 : Nat) (l0 : List (S40)) (A1 : Option Addr) (c1 : Nat) (l1 : List (S40)) (a2 : Int) (r : Bool) (w : World) (hr0 : Kd.C k40 w A0 l0.length l0) (hc0 : l0.length ≤ c0) (hr1 : Kd.C k40 w A1 l1.length l1) (hc1 : l1.length ≤ c1) (h : ebbtidelaw10_ChainPuts.f k l0 l1 a2 = some r) :
    Calls Try.prog 4 #[.slice A0 l0.length c0, .slice A1 l1.length c1, .int .i64 a2] w fun e w' => e = .returned (.bool r) ∧ Below w.heap.size w w' := by
  have HR0 := Aside0.mk hr0
  have HC0 := Aside0.mk hc0
  clear hr0 hc0
  have HR1 := Aside0.mk hr1
  have HC1 := Aside0.mk hc1
  clear hr1 hc1
  have HB := Aside0.mk (Below.refl w.heap.size w)
  have H : ((ebbtidelaw10_alive.f k).bind fun t356 => (if t356 = true then (if (l0.length : Int) > 200 then (ebbtidelaw10_ChainPuts.j0 k l0 l1 a2 true) else (if (l1.length : Int) > 200 then (ebbtidelaw10_ChainPuts.j0 k l0 l1 a2 true) else (ebbtidelaw10_ChainPuts.j0 k l0 l1 a2 ((l1.length : Int) == 0)))) else (none))) = some r := h
  clear h
  replace H := Option.bind_eq_some_iff.mp H
  obtain ⟨t356, A40, H⟩ := H
  replace H : (if t356 = true then (if (l0.length : Int) > 200 then (ebbtidelaw10_ChainPuts.j0 k l0 l1 a2 true) else (if (l1.length : Int) > 200 then (ebbtidelaw10_ChainPuts.j0 k l0 l1 a2 true) else (ebbtidelaw10_ChainPuts.j0 k l0 l1 a2 ((l1.length : Int) == 0)))) else (none)) = some r := H
  have A4 := Aside0.mk A40
  clear A40
  by_cases c5 : t356 = true
  · subst c5
    have H1 : (if (l0.length : Int) > 200 then (ebbtidelaw10_ChainPuts.j0 k l0 l1 a2 true) else (if (l1.length : Int) > 200 then (ebbtidelaw10_ChainPuts.j0 k l0 l1 a2 true) else (ebbtidelaw10_ChainPuts.j0 k l0 l1 a2 ((l1.length : Int) == 0)))) = some r := by rw [if_pos rfl] at H; exact H
    clear H
    have H := H1
    clear H1
    have HC6 := Aside0.mk H
    clear H
    go_enter Try.func4, Try.ntmps4
    go_upto_region 3 with (first | ((with_reducible refine gate_callee (f := 8) rfl ?_); refine goesL_ (some 16) rfl rfl Try.func8 (by kernel_rfl) rfl #[] rfl (by (try simp only [List.map_toArray, List.map_cons, List.map_nil]); first | done | rfl | (simp only [List.length_drop, List.length_take]; rfl)) ?_; (with_reducible refine (ebbtidelaw10_alive.calls k  true _ A4.out).mono ?_); rintro e w7 ⟨rfl, hb⟩; refine ⟨_, rfl, ?_⟩; have n0_ := Aside0.mk (below_step (by repeat (first | (with_reducible first | exact HB.out | apply below_alloc | apply pw_below_drewN | apply below_drew1) | exact HB.out)) hb); clear HB; have HB := n0_; clear n0_; (try clear hb); (try clear hb2); (try clear hk); (try clear hi)))
    (try simp only [Act.put, List.setIfInBounds_toArray, List.set_cons_zero, List.set_cons_succ])
    go_cut [30] (fun v30 wc => ∃ (kq : Nat) (x30_5 : Bool), v30 = .bool x30_5 ∧ Aside0 (ebbtidelaw10_ChainPuts.j0 kq l0 l1 a2 x30_5 = some r) ∧ Aside0 (kq ≤ k) ∧ Aside0 (Below w.heap.size w wc))
    case first =>
      have H := HC6.out
      clear HC6
      by_cases c8 : (l0.length : Int) > 200
      · rw [if_pos c8] at H
        have c8b0 : decide (200 < (l0.length : Int)) = true := decide_eq_true c8
        have c8b1 : decide (200 < l0.length) = true := decide_eq_true (by omega)
        clear c8
        (first | rw [c8b0] | (simp only [i64_w, i32_w]; rw [c8b0]) | skip)
        have H' := Aside0.mk H
        clear H
        go_wp2
        go_meet
        case rel => exact ⟨_, (true), (by first | rfl | (simp; done) | (simp [*]; done)), H', ⟨by first | omega | exact Nat.le_refl _⟩, ⟨by repeat (first | (with_reducible first | exact HB.out | apply below_alloc | apply pw_below_drewN | apply below_drew1) | exact HB.out)⟩⟩
      · rw [if_neg c8] at H
        have c8b0 : decide (200 < (l0.length : Int)) = false := decide_eq_false c8
        have c8b1 : decide (200 < l0.length) = false := decide_eq_false (by omega)
        clear c8
        (first | rw [c8b0] | (simp only [i64_w, i32_w]; rw [c8b0]) | skip)
        by_cases c9 : (l1.length : Int) > 200
        · rw [if_pos c9] at H
          have c9b0 : decide (200 < (l1.length : Int)) = true := decide_eq_true c9
          have c9b1 : decide (200 < l1.length) = true := decide_eq_true (by omega)
          clear c9
          have H' := Aside0.mk H
          clear H
          go_wp2
          go_meet
          case rel => exact ⟨_, (true), (by first | rfl | (simp; done) | (simp [*]; done)), H', ⟨by first | omega | exact Nat.le_refl _⟩, ⟨by repeat (first | (with_reducible first | exact HB.out | apply below_alloc | apply pw_below_drewN | apply below_drew1) | exact HB.out)⟩⟩
        · rw [if_neg c9] at H
          have c9b0 : decide (200 < (l1.length : Int)) = false := decide_eq_false c9
          have c9b1 : decide (200 < l1.length) = false := decide_eq_false (by omega)
          clear c9
          have H' := Aside0.mk H
          clear H
          go_wp2
          go_meet
          case rel => exact ⟨_, (((l1.length : Int) == 0)), (by first | rfl | (simp; done) | (simp [*]; done)), H', ⟨by first | omega | exact Nat.le_refl _⟩, ⟨by repeat (first | (with_reducible first | exact HB.out | apply below_alloc | apply pw_below_drewN | apply below_drew1) | exact HB.out)⟩⟩
    case rest =>
      clear HC6
      try clear c1
      try clear p2
      try clear c4
      try clear c5
      try clear c8
      try clear c8b0
      try clear c8b1
      try clear c9
      try clear c9b0
      try clear c9b1
      obtain ⟨kq, x30_5, rfl, HA, HJ5, HB⟩ := hcut
      cases kq with
      | zero => exact absurd HA.out (by simp [ebbtidelaw10_ChainPuts.j0])
      | succ kj5 =>
        have H := HA.out
        clear HA
        simp only [ebbtidelaw10_ChainPuts.j0] at H
        by_cases c10 : x30_5 = true
        · subst c10
          have H1 : (some true) = some r := by rw [if_pos rfl] at H; exact H
          clear H
          have H := H1
          clear H1
          obtain rfl := Option.some.inj H
          go_wp2
          go_ret
          exact ⟨by first | rfl | (simp [errW_none, errW_some] <;> rfl) | (simp [*, errW_none, errW_some] <;> rfl), by repeat (first | (with_reducible first | exact HB.out | apply below_alloc | apply pw_below_drewN | apply below_drew1) | exact HB.out)⟩
        · replace c10 := Bool.eq_false_iff.mpr c10
          subst c10
          have H1 : ((some (([] : List (S40)) : List (S40))).bind fun y357 => (if y357.length + l0.length < 2932031007402 then ((some (y357 ++ l0 : List (S40))).bind fun y360 => ((chain_Put.f kj5 y360 l1).bind fun bt363 => ((ebbtideref10_Put.f kj5 l0 l1).bind fun bt367 => (if 0 < (l1.length : Int) then ((chain_Fold.f kj5 y360 ((rd_T40 l1 0).f0) a2).bind fun bt372 => ((ebbtideref10_Fold.f kj5 l0 ((rd_T40 l1 0).f0) a2).bind fun bt377 => ((ebbtideref10_Same.f kj5 bt363.1 bt367.1).bind fun t381 => (if t381 = true then (if bt363.2 = bt367.2 then ((ebbtideref10_Same.f kj5 bt372.1 bt377.1).bind fun t382 => (if t382 = true then (if bt372.2 = bt377.2 then ((ebbtideref10_Same.f kj5 y360 l0).bind fun t383 => (some t383)) else (none)) else (none))) else (none)) else (none))))) else (none))))) else (none))) = some r := by rw [if_neg (show ¬ (false = true) by decide)] at H; exact H
          clear H
          have H := H1
          clear H1
          obtain ⟨y357, hy357⟩ : ∃ y_ : List (S40), y_ = (([] : List (S40))) := ⟨_, rfl⟩
          replace H : (if y357.length + l0.length < 2932031007402 then ((some (y357 ++ l0 : List (S40))).bind fun y360 => ((chain_Put.f kj5 y360 l1).bind fun bt363 => ((ebbtideref10_Put.f kj5 l0 l1).bind fun bt367 => (if 0 < (l1.length : Int) then ((chain_Fold.f kj5 y360 ((rd_T40 l1 0).f0) a2).bind fun bt372 => ((ebbtideref10_Fold.f kj5 l0 ((rd_T40 l1 0).f0) a2).bind fun bt377 => ((ebbtideref10_Same.f kj5 bt363.1 bt367.1).bind fun t381 => (if t381 = true then (if bt363.2 = bt367.2 then ((ebbtideref10_Same.f kj5 bt372.1 bt377.1).bind fun t382 => (if t382 = true then (if bt372.2 = bt377.2 then ((ebbtideref10_Same.f kj5 y360 l0).bind fun t383 => (some t383)) else (none)) else (none))) else (none)) else (none))))) else (none))))) else (none)) = some r := by first | (rw [hy357]; with_reducible exact H) | (have H2_ := (Option.bind_some _ _).symm.trans H; rw [hy357]; with_reducible exact H2_) | (have H2_ := (Option.bind_some _ _).symm.trans H; with_reducible exact H2_) | with_reducible exact H | (rw [hy357]; exact H) | exact H
          have Ny357 := Aside0.mk hy357
          clear hy357
          by_cases c11 : y357.length + l0.length < 2932031007402
          · rw [if_pos c11] at H
            have LMc11 := Aside0.mk c11
            clear c11
            obtain ⟨y360, hy360⟩ : ∃ y_ : List (S40), y_ = (y357 ++ l0) := ⟨_, rfl⟩
            replace H : ((chain_Put.f kj5 y360 l1).bind fun bt363 => ((ebbtideref10_Put.f kj5 l0 l1).bind fun bt367 => (if 0 < (l1.length : Int) then ((chain_Fold.f kj5 y360 ((rd_T40 l1 0).f0) a2).bind fun bt372 => ((ebbtideref10_Fold.f kj5 l0 ((rd_T40 l1 0).f0) a2).bind fun bt377 => ((ebbtideref10_Same.f kj5 bt363.1 bt367.1).bind fun t381 => (if t381 = true then (if bt363.2 = bt367.2 then ((ebbtideref10_Same.f kj5 bt372.1 bt377.1).bind fun t382 => (if t382 = true then (if bt372.2 = bt377.2 then ((ebbtideref10_Same.f kj5 y360 l0).bind fun t383 => (some t383)) else (none)) else (none))) else (none)) else (none))))) else (none)))) = some r := by first | (rw [hy360]; with_reducible exact H) | (have H2_ := (Option.bind_some _ _).symm.trans H; rw [hy360]; with_reducible exact H2_) | (have H2_ := (Option.bind_some _ _).symm.trans H; with_reducible exact H2_) | with_reducible exact H | (rw [hy360]; exact H) | exact H
            have Ny360 := Aside0.mk hy360
            clear hy360
            replace H := Option.bind_eq_some_iff.mp H
            obtain ⟨⟨t363, t366⟩, A120, H⟩ := H
            replace H : ((ebbtideref10_Put.f kj5 l0 l1).bind fun bt367 => (if 0 < (l1.length : Int) then ((chain_Fold.f kj5 y360 ((rd_T40 l1 0).f0) a2).bind fun bt372 => ((ebbtideref10_Fold.f kj5 l0 ((rd_T40 l1 0).f0) a2).bind fun bt377 => ((ebbtideref10_Same.f kj5 t363 bt367.1).bind fun t381 => (if t381 = true then (if t366 = bt367.2 then ((ebbtideref10_Same.f kj5 bt372.1 bt377.1).bind fun t382 => (if t382 = true then (if bt372.2 = bt377.2 then ((ebbtideref10_Same.f kj5 y360 l0).bind fun t383 => (some t383)) else (none)) else (none))) else (none)) else (none))))) else (none))) = some r := H
            have A12 := Aside0.mk A120
            clear A120
            replace H := Option.bind_eq_some_iff.mp H
            obtain ⟨⟨t367, t368⟩, A130, H⟩ := H
            replace H : (if 0 < (l1.length : Int) then ((chain_Fold.f kj5 y360 ((rd_T40 l1 0).f0) a2).bind fun bt372 => ((ebbtideref10_Fold.f kj5 l0 ((rd_T40 l1 0).f0) a2).bind fun bt377 => ((ebbtideref10_Same.f kj5 t363 t367).bind fun t381 => (if t381 = true then (if t366 = t368 then ((ebbtideref10_Same.f kj5 bt372.1 bt377.1).bind fun t382 => (if t382 = true then (if bt372.2 = bt377.2 then ((ebbtideref10_Same.f kj5 y360 l0).bind fun t383 => (some t383)) else (none)) else (none))) else (none)) else (none))))) else (none)) = some r := H
            have A13 := Aside0.mk A130
            clear A130
            by_cases c14 : 0 < (l1.length : Int)
            · rw [if_pos c14] at H
              have c14b0 : decide (0 < (l1.length : Int)) = true := decide_eq_true c14
              have c14b1 : decide (0 < l1.length) = true := decide_eq_true (by omega)
              clear c14
              replace H := Option.bind_eq_some_iff.mp H
              obtain ⟨⟨t372, t373⟩, A150, H⟩ := H
              replace H : ((ebbtideref10_Fold.f kj5 l0 ((rd_T40 l1 0).f0) a2).bind fun bt377 => ((ebbtideref10_Same.f kj5 t363 t367).bind fun t381 => (if t381 = true then (if t366 = t368 then ((ebbtideref10_Same.f kj5 t372 bt377.1).bind fun t382 => (if t382 = true then (if t373 = bt377.2 then ((ebbtideref10_Same.f kj5 y360 l0).bind fun t383 => (some t383)) else (none)) else (none))) else (none)) else (none)))) = some r := H
              have A15 := Aside0.mk A150
              clear A150
              replace H := Option.bind_eq_some_iff.mp H
              obtain ⟨⟨t377, t378⟩, A160, H⟩ := H
              replace H : ((ebbtideref10_Same.f kj5 t363 t367).bind fun t381 => (if t381 = true then (if t366 = t368 then ((ebbtideref10_Same.f kj5 t372 t377).bind fun t382 => (if t382 = true then (if t373 = t378 then ((ebbtideref10_Same.f kj5 y360 l0).bind fun t383 => (some t383)) else (none)) else (none))) else (none)) else (none))) = some r := H
              have A16 := Aside0.mk A160
              clear A160
              replace H := Option.bind_eq_some_iff.mp H
              obtain ⟨t381, A170, H⟩ := H
              replace H : (if t381 = true then (if t366 = t368 then ((ebbtideref10_Same.f kj5 t372 t377).bind fun t382 => (if t382 = true then (if t373 = t378 then ((ebbtideref10_Same.f kj5 y360 l0).bind fun t383 => (some t383)) else (none)) else (none))) else (none)) else (none)) = some r := H
              have A17 := Aside0.mk A170
              clear A170
              by_cases c18 : t381 = true
              · subst c18
                have H1 : (if t366 = t368 then ((ebbtideref10_Same.f kj5 t372 t377).bind fun t382 => (if t382 = true then (if t373 = t378 then ((ebbtideref10_Same.f kj5 y360 l0).bind fun t383 => (some t383)) else (none)) else (none))) else (none)) = some r := by rw [if_pos rfl] at H; exact H
                clear H
                have H := H1
                clear H1
                by_cases c19 : t366 = t368
                · rw [if_pos c19] at H
                  have c19b0 : (t366 == t368) = true := beq_iff_eq.mpr c19
                  have c19b1 : (t366 != t368) = false := bne_eq_false_iff_eq.mpr c19
                  clear c19
                  replace H := Option.bind_eq_some_iff.mp H
                  obtain ⟨t382, A200, H⟩ := H
                  replace H : (if t382 = true then (if t373 = t378 then ((ebbtideref10_Same.f kj5 y360 l0).bind fun t383 => (some t383)) else (none)) else (none)) = some r := H
                  have A20 := Aside0.mk A200
                  clear A200
                  by_cases c21 : t382 = true
                  · subst c21
                    have H1 : (if t373 = t378 then ((ebbtideref10_Same.f kj5 y360 l0).bind fun t383 => (some t383)) else (none)) = some r := by rw [if_pos rfl] at H; exact H
                    clear H
                    have H := H1
                    clear H1
                    by_cases c22 : t373 = t378
                    · rw [if_pos c22] at H
                      have c22b0 : (t373 == t378) = true := beq_iff_eq.mpr c22
                      have c22b1 : (t373 != t378) = false := bne_eq_false_iff_eq.mpr c22
                      clear c22
                      replace H := Option.bind_eq_some_iff.mp H
                      obtain ⟨t383, A230, H⟩ := H
                      replace H : (some t383) = some r := H
                      have A23 := Aside0.mk A230
                      clear A230
                      obtain rfl := Option.some.inj H
                      go_wp2_with (first | ((with_reducible refine gate_dst (N := 31) rfl ?_); (try (refine gate_guard (by rfl) ?_; dsimp only)); refine Kd.R_lit k40 _ 40 ?hg (N := 31) ?hd (xs := ([] : List (S40))) (inner := []) (ok := fun _ => True) (okp := fun _ => True) ?hr ?hp (fun _ hk => hk) trivial (Below.refl _ _) (Nat.le_refl _) (by simp) ?_; (case hd => rfl); (case hg => rfl); (case hr => first | (go_simp; done) | (go_simp; rfl)); (case hp => exact (Reps.none _ _)); intro v358 w24 ho25 hb hg_ hnew_; clear hg_ hnew_; (first | rw [← Ny357.out] at ho25 | (simp only [Int.reduceToNat] at ho25; rw [← Ny357.out] at ho25)); have n0_ := Aside0.mk (Kd.R_lower ho25 (below_size (by repeat (first | (with_reducible first | exact HB.out | apply below_alloc | apply pw_below_drewN | apply below_drew1) | exact HB.out)))); have n1_ := Aside0.mk (below_step (by repeat (first | (with_reducible first | exact HB.out | apply below_alloc | apply pw_below_drewN | apply below_drew1) | exact HB.out)) hb); clear HB; have HO359 := n0_; have HB := n1_; clear n0_ n1_; clear hb ho25) | ((with_reducible refine gate_builtin (b := .append) (xs := #[.tmp 31, .tmp 32]) rfl ?_); (try (refine gate_guard (by rfl) ?_; dsimp only)); at_builtin; refine Kd.R_append_rows k40 (w0 := w) w.heap.size rfl (.tmp 31) (.tmp 32) 22 40 (.agg #[(.int .i64 0), (.int .i64 0), (.int .i64 0), (.bool false), (.int .i64 0), (.int .i64 0)]) 48 rfl Try.underlying22 info40 rfl (by decide) (by omega) v358 y357 l0 _ _ _ (fun _ => True) (fun _ => False) rfl rfl ?aO ?aR (fun _ _ h => h) (fun _ h => h.elim) ?aF ?aB ?aS ?aL ?_; (case aR => repeat (first | exact (Kd.C_below HR0.out HB.out) | (with_reducible refine Kd.C_alloc ?_ _) | (with_reducible refine Kd.C_drewN ?_ _) | (with_reducible refine Kd.C_drew ?_))); (case aB => exact (by repeat (first | (with_reducible first | exact HB.out | apply below_alloc | apply pw_below_drewN | apply below_drew1) | exact HB.out))); (case aF => exact (fun _ _ => trivial)); (case aO => exact (by (with_reducible repeat (first | apply Kd.R_alloc | apply Kd.R_drewN | apply Kd.R_drew)); exact HO359.out)); (case aS => exact (below_size (by repeat (first | (with_reducible first | exact HB.out | apply below_alloc | apply pw_below_drewN | apply below_drew1) | exact HB.out)))); (case aL => have := LMc11.out; omega); intro v361 w26 ho hb hg hat; rw [← Ny360.out] at ho; have n0_ := Aside0.mk (hb); have n1_ := Aside0.mk (ho); clear HB; clear HO359; have HB := n0_; have HO362 := n1_; clear n0_ n1_; clear ho hb hg hat; obtain ⟨Ao27, co27, eo27⟩ := Kd.R_slice HO362.out; subst eo27) | ((with_reducible refine gate_callee (f := 19) rfl ?_); refine goesL_ (some 37) rfl rfl Try.func19 (by kernel_rfl) rfl #[.slice Ao27 y360.length co27, .slice A1 l1.length c1] rfl (by (try simp only [List.map_toArray, List.map_cons, List.map_nil]); first | done | rfl | (simp only [List.length_drop, List.length_take]; rfl)) ?_; (with_reducible refine (chain_Put.calls kj5 (fun k_ => some k_ = (.slice Ao27 y360.length co27 : Value).ownBlock) _ _ y360 (fun k_ => k_ < w.heap.size) _ _ l1 t363 t366 _ ?side1 ?side2 A12.out).mono ?_); (case side1 => exact Kd.R_V (Kd.R_tight rfl (HO362.out))); (case side2 => exact Kd.V_mk HC1.out (Kd.F_below (Kd.C_F k40_heap HR1.out) (by repeat (first | (with_reducible first | exact HB.out | apply below_alloc | apply pw_below_drewN | apply below_drew1) | exact HB.out)))); rintro e w28 ⟨v364, rfl, ho0, hb⟩; refine ⟨_, rfl, ?_⟩; have n0_ := Aside0.mk (Kd.R_elder' (by (with_reducible repeat (first | apply Kd.R_alloc | apply Kd.R_drewN | apply Kd.R_drew)); exact HO362.out) (Kd.R_base ho0) hb); have n1_ := Aside0.mk (Kd.R_lower (Kd.R_new' (Kd.R_mono (ok' := fun k_ => True) ho0 (fun _ hk_ => trivial)) (Kd.R_lt (by (with_reducible repeat (first | apply Kd.R_alloc | apply Kd.R_drewN | apply Kd.R_drew)); exact HO362.out))) (below_size (by repeat (first | (with_reducible first | exact HB.out | apply below_alloc | apply pw_below_drewN | apply below_drew1) | exact HB.out)))); have n2_ := Aside0.mk (below_step (by repeat (first | (with_reducible first | exact HB.out | apply below_alloc | apply pw_below_drewN | apply below_drew1) | exact HB.out)) hb); clear HO362; clear HB; have HO362 := n0_; have HO365 := n1_; have HB := n2_; clear n0_ n1_ n2_; (try clear hb); (try clear hb2); (try clear hk); (try clear hi); (try clear ho0)) | ((with_reducible refine gate_callee (f := 20) rfl ?_); refine goesL_ (some 43) rfl rfl Try.func20 (by kernel_rfl) rfl #[.slice A0 l0.length c0, .slice A1 l1.length c1] rfl (by (try simp only [List.map_toArray, List.map_cons, List.map_nil]); first | done | rfl | (simp only [List.length_drop, List.length_take]; rfl)) ?_; (with_reducible refine (ebbtideref10_Put.calls kj5 _ _ l0 _ _ l1 t367 t368 _ ?side1 ?side2 ?side3 ?side4 A13.out).mono ?_); (case side1 => repeat (first | exact (Kd.C_below HR0.out HB.out) | (with_reducible refine Kd.C_alloc ?_ _) | (with_reducible refine Kd.C_drewN ?_ _) | (with_reducible refine Kd.C_drew ?_))); (case side2 => exact HC0.out); (case side3 => repeat (first | exact (Kd.C_below HR1.out HB.out) | (with_reducible refine Kd.C_alloc ?_ _) | (with_reducible refine Kd.C_drewN ?_ _) | (with_reducible refine Kd.C_drew ?_))); (case side4 => exact HC1.out); rintro e w29 ⟨v369, rfl, ho0, hb⟩; refine ⟨_, rfl, ?_⟩; have n0_ := Aside0.mk (Kd.R_elder' (by (with_reducible repeat (first | apply Kd.R_alloc | apply Kd.R_drewN | apply Kd.R_drew)); exact HO362.out) (Kd.R_base ho0) hb); have n1_ := Aside0.mk (Kd.R_elder' (by (with_reducible repeat (first | apply Kd.R_alloc | apply Kd.R_drewN | apply Kd.R_drew)); exact HO365.out) (Kd.R_base ho0) hb); have n2_ := Aside0.mk (Kd.R_lower (Kd.R_new' (Kd.R_new' ho0 (Kd.R_lt (by (with_reducible repeat (first | apply Kd.R_alloc | apply Kd.R_drewN | apply Kd.R_drew)); exact HO362.out))) (Kd.R_lt (by (with_reducible repeat (first | apply Kd.R_alloc | apply Kd.R_drewN | apply Kd.R_drew)); exact HO365.out))) (below_size (by repeat (first | (with_reducible first | exact HB.out | apply below_alloc | apply pw_below_drewN | apply below_drew1) | exact HB.out)))); have n3_ := Aside0.mk (below_step (by repeat (first | (with_reducible first | exact HB.out | apply below_alloc | apply pw_below_drewN | apply below_drew1) | exact HB.out)) hb); clear HO362; clear HO365; clear HB; have HO362 := n0_; have HO365 := n1_; have HO370 := n2_; have HB := n3_; clear n0_ n1_ n2_ n3_; (try clear hb); (try clear hb2); (try clear hk); (try clear hi); (try clear ho0); have p371 : 0 ≤ (0 : Int) := (by omega); have q371 : 0 < (l1.length : Int) := of_decide_eq_true (by first | (with_reducible assumption) | assumption); obtain ⟨ad371, e371, hx371_0, hx371_1, hx371_2, hx371_3, hx371_4, hx371_5⟩ := at_T40 HR1.out 0 p371 q371; cases e371; have qi371 : (0 < l1.length) = True := eq_true (by omega); (try rw [show ((0 : Int)).toNat = 0 from rfl] at hx371_0); (try rw [show 0 * 6 = 0 from rfl] at hx371_0); (try rw [Addr.add_zero'] at hx371_0); (try rw [show ((0 : Int)).toNat = 0 from rfl] at hx371_1); (try rw [show 0 * 6 = 0 from rfl] at hx371_1); (try rw [Addr.add_zero'] at hx371_1); (try rw [show ((0 : Int)).toNat = 0 from rfl] at hx371_2); (try rw [show 0 * 6 = 0 from rfl] at hx371_2); (try rw [Addr.add_zero'] at hx371_2); (try rw [show ((0 : Int)).toNat = 0 from rfl] at hx371_3); (try rw [show 0 * 6 = 0 from rfl] at hx371_3); (try rw [Addr.add_zero'] at hx371_3); (try rw [show ((0 : Int)).toNat = 0 from rfl] at hx371_4); (try rw [show 0 * 6 = 0 from rfl] at hx371_4); (try rw [Addr.add_zero'] at hx371_4); (try rw [show ((0 : Int)).toNat = 0 from rfl] at hx371_5); (try rw [show 0 * 6 = 0 from rfl] at hx371_5); (try rw [Addr.add_zero'] at hx371_5); replace hx371_0 := (HB.out.cell (World.block_lt_of_cell? w _ hx371_0)).trans hx371_0; replace hx371_1 := (HB.out.cell (World.block_lt_of_cell? w _ hx371_1)).trans hx371_1; replace hx371_2 := (HB.out.cell (World.block_lt_of_cell? w _ hx371_2)).trans hx371_2; replace hx371_3 := (HB.out.cell (World.block_lt_of_cell? w _ hx371_3)).trans hx371_3; replace hx371_4 := (HB.out.cell (World.block_lt_of_cell? w _ hx371_4)).trans hx371_4; replace hx371_5 := (HB.out.cell (World.block_lt_of_cell? w _ hx371_5)).trans hx371_5; replace p371 := eq_true p371; replace q371 := eq_true q371) | ((with_reducible refine gate_callee (f := 21) rfl ?_); refine goesL_ (some 53) rfl rfl Try.func21 (by kernel_rfl) rfl #[.slice Ao27 y360.length co27, .int .i64 ((rd_T40 l1 0).f0), .int .i64 a2] rfl (by (try simp only [List.map_toArray, List.map_cons, List.map_nil]); first | done | rfl | (simp only [List.length_drop, List.length_take]; rfl)) ?_; (with_reducible refine (chain_Fold.calls kj5 _ _ y360 ((rd_T40 l1 0).f0) a2 t372 t373 _ ?side1 ?side2 A15.out).mono ?_); (case side1 => repeat (first | exact (Kd.R_reads' HO362.out).2.2 | (with_reducible refine Kd.C_alloc ?_ _) | (with_reducible refine Kd.C_drewN ?_ _) | (with_reducible refine Kd.C_drew ?_))); (case side2 => exact (Kd.R_reads' HO362.out).2.1); rintro e w30 ⟨v374, rfl, ho0, hb⟩; refine ⟨_, rfl, ?_⟩; have n0_ := Aside0.mk (Kd.R_elder' (by (with_reducible repeat (first | apply Kd.R_alloc | apply Kd.R_drewN | apply Kd.R_drew)); exact HO362.out) (Kd.R_base ho0) hb); have n1_ := Aside0.mk (Kd.R_elder' (by (with_reducible repeat (first | apply Kd.R_alloc | apply Kd.R_drewN | apply Kd.R_drew)); exact HO365.out) (Kd.R_base ho0) hb); have n2_ := Aside0.mk (Kd.R_elder' (by (with_reducible repeat (first | apply Kd.R_alloc | apply Kd.R_drewN | apply Kd.R_drew)); exact HO370.out) (Kd.R_base ho0) hb); have n3_ := Aside0.mk (Kd.R_lower (Kd.R_new' (Kd.R_new' (Kd.R_new' ho0 (Kd.R_lt (by (with_reducible repeat (first | apply Kd.R_alloc | apply Kd.R_drewN | apply Kd.R_drew)); exact HO362.out))) (Kd.R_lt (by (with_reducible repeat (first | apply Kd.R_alloc | apply Kd.R_drewN | apply Kd.R_drew)); exact HO365.out))) (Kd.R_lt (by (with_reducible repeat (first | apply Kd.R_alloc | apply Kd.R_drewN | apply Kd.R_drew)); exact HO370.out))) (below_size (by repeat (first | (with_reducible first | exact HB.out | apply below_alloc | apply pw_below_drewN | apply below_drew1) | exact HB.out)))); have n4_ := Aside0.mk (below_step (by repeat (first | (with_reducible first | exact HB.out | apply below_alloc | apply pw_below_drewN | apply below_drew1) | exact HB.out)) hb); clear HO362; clear HO365; clear HO370; clear HB; have HO362 := n0_; have HO365 := n1_; have HO370 := n2_; have HO375 := n3_; have HB := n4_; clear n0_ n1_ n2_ n3_ n4_; (try clear hb); (try clear hb2); (try clear hk); (try clear hi); (try clear ho0); have p376 : 0 ≤ (0 : Int) := (by omega); have q376 : 0 < (l1.length : Int) := of_decide_eq_true (by first | (with_reducible assumption) | assumption); obtain ⟨ad376, e376, hx376_0, hx376_1, hx376_2, hx376_3, hx376_4, hx376_5⟩ := at_T40 HR1.out 0 p376 q376; obtain rfl : ad371 = ad376 := (by injection e376); have qi376 : (0 < l1.length) = True := eq_true (by omega); (try rw [show ((0 : Int)).toNat = 0 from rfl] at hx376_0); (try rw [show 0 * 6 = 0 from rfl] at hx376_0); (try rw [Addr.add_zero'] at hx376_0); (try rw [show ((0 : Int)).toNat = 0 from rfl] at hx376_1); (try rw [show 0 * 6 = 0 from rfl] at hx376_1); (try rw [Addr.add_zero'] at hx376_1); (try rw [show ((0 : Int)).toNat = 0 from rfl] at hx376_2); (try rw [show 0 * 6 = 0 from rfl] at hx376_2); (try rw [Addr.add_zero'] at hx376_2); (try rw [show ((0 : Int)).toNat = 0 from rfl] at hx376_3); (try rw [show 0 * 6 = 0 from rfl] at hx376_3); (try rw [Addr.add_zero'] at hx376_3); (try rw [show ((0 : Int)).toNat = 0 from rfl] at hx376_4); (try rw [show 0 * 6 = 0 from rfl] at hx376_4); (try rw [Addr.add_zero'] at hx376_4); (try rw [show ((0 : Int)).toNat = 0 from rfl] at hx376_5); (try rw [show 0 * 6 = 0 from rfl] at hx376_5); (try rw [Addr.add_zero'] at hx376_5); replace hx376_0 := (HB.out.cell (World.block_lt_of_cell? w _ hx376_0)).trans hx376_0; replace hx376_1 := (HB.out.cell (World.block_lt_of_cell? w _ hx376_1)).trans hx376_1; replace hx376_2 := (HB.out.cell (World.block_lt_of_cell? w _ hx376_2)).trans hx376_2; replace hx376_3 := (HB.out.cell (World.block_lt_of_cell? w _ hx376_3)).trans hx376_3; replace hx376_4 := (HB.out.cell (World.block_lt_of_cell? w _ hx376_4)).trans hx376_4; replace hx376_5 := (HB.out.cell (World.block_lt_of_cell? w _ hx376_5)).trans hx376_5; replace p376 := eq_true p376; replace q376 := eq_true q376) | ((with_reducible refine gate_callee (f := 22) rfl ?_); refine goesL_ (some 63) rfl rfl Try.func22 (by kernel_rfl) rfl #[.slice A0 l0.length c0, .int .i64 ((rd_T40 l1 0).f0), .int .i64 a2] rfl (by (try simp only [List.map_toArray, List.map_cons, List.map_nil]); first | done | rfl | (simp only [List.length_drop, List.length_take]; rfl)) ?_; (with_reducible refine (ebbtideref10_Fold.calls kj5 _ _ l0 ((rd_T40 l1 0).f0) a2 t377 t378 _ ?side1 ?side2 A16.out).mono ?_); (case side1 => repeat (first | exact (Kd.C_below HR0.out HB.out) | (with_reducible refine Kd.C_alloc ?_ _) | (with_reducible refine Kd.C_drewN ?_ _) | (with_reducible refine Kd.C_drew ?_))); (case side2 => exact HC0.out); rintro e w31 ⟨v379, rfl, ho0, hb⟩; refine ⟨_, rfl, ?_⟩; have n0_ := Aside0.mk (Kd.R_elder' (by (with_reducible repeat (first | apply Kd.R_alloc | apply Kd.R_drewN | apply Kd.R_drew)); exact HO362.out) (Kd.R_base ho0) hb); have n1_ := Aside0.mk (Kd.R_elder' (by (with_reducible repeat (first | apply Kd.R_alloc | apply Kd.R_drewN | apply Kd.R_drew)); exact HO365.out) (Kd.R_base ho0) hb); have n2_ := Aside0.mk (Kd.R_elder' (by (with_reducible repeat (first | apply Kd.R_alloc | apply Kd.R_drewN | apply Kd.R_drew)); exact HO370.out) (Kd.R_base ho0) hb); have n3_ := Aside0.mk (Kd.R_elder' (by (with_reducible repeat (first | apply Kd.R_alloc | apply Kd.R_drewN | apply Kd.R_drew)); exact HO375.out) (Kd.R_base ho0) hb); have n4_ := Aside0.mk (Kd.R_lower (Kd.R_new' (Kd.R_new' (Kd.R_new' (Kd.R_new' ho0 (Kd.R_lt (by (with_reducible repeat (first | apply Kd.R_alloc | apply Kd.R_drewN | apply Kd.R_drew)); exact HO362.out))) (Kd.R_lt (by (with_reducible repeat (first | apply Kd.R_alloc | apply Kd.R_drewN | apply Kd.R_drew)); exact HO365.out))) (Kd.R_lt (by (with_reducible repeat (first | apply Kd.R_alloc | apply Kd.R_drewN | apply Kd.R_drew)); exact HO370.out))) (Kd.R_lt (by (with_reducible repeat (first | apply Kd.R_alloc | apply Kd.R_drewN | apply Kd.R_drew)); exact HO375.out))) (below_size (by repeat (first | (with_reducible first | exact HB.out | apply below_alloc | apply pw_below_drewN | apply below_drew1) | exact HB.out)))); have n5_ := Aside0.mk (below_step (by repeat (first | (with_reducible first | exact HB.out | apply below_alloc | apply pw_below_drewN | apply below_drew1) | exact HB.out)) hb); clear HO362; clear HO365; clear HO370; clear HO375; clear HB; have HO362 := n0_; have HO365 := n1_; have HO370 := n2_; have HO375 := n3_; have HO380 := n4_; have HB := n5_; clear n0_ n1_ n2_ n3_ n4_ n5_; (try clear hb); (try clear hb2); (try clear hk); (try clear hi); (try clear ho0); obtain ⟨Ao32, co32, eo32⟩ := Kd.R_slice HO365.out; subst eo32; obtain ⟨Ao33, co33, eo33⟩ := Kd.R_slice HO370.out; subst eo33) | ((with_reducible refine gate_callee (f := 15) rfl ?_); refine goesL_ (some 68) rfl rfl Try.func15 (by kernel_rfl) rfl #[.slice Ao32 t363.length co32, .slice Ao33 t367.length co33] rfl (by (try simp only [List.map_toArray, List.map_cons, List.map_nil]); first | done | rfl | (simp only [List.length_drop, List.length_take]; rfl)) ?_; (with_reducible refine (ebbtideref10_Same.calls kj5 _ _ t363 _ _ t367 true _ ?side1 ?side2 ?side3 ?side4 A17.out).mono ?_); (case side1 => repeat (first | exact (Kd.R_reads' HO365.out).2.2 | (with_reducible refine Kd.C_alloc ?_ _) | (with_reducible refine Kd.C_drewN ?_ _) | (with_reducible refine Kd.C_drew ?_))); (case side2 => exact (Kd.R_reads' HO365.out).2.1); (case side3 => repeat (first | exact (Kd.R_reads' HO370.out).2.2 | (with_reducible refine Kd.C_alloc ?_ _) | (with_reducible refine Kd.C_drewN ?_ _) | (with_reducible refine Kd.C_drew ?_))); (case side4 => exact (Kd.R_reads' HO370.out).2.1); rintro e w' ⟨rfl, ⟨nd, rfl⟩⟩; refine ⟨_, rfl, ?_⟩; obtain ⟨Ao34, co34, eo34⟩ := Kd.R_slice HO375.out; subst eo34; obtain ⟨Ao35, co35, eo35⟩ := Kd.R_slice HO380.out; subst eo35) | (go_at_call 15; (with_reducible refine (ebbtideref10_Same.calls kj5 _ _ t372 _ _ t377 true _ ?side1 ?side2 ?side3 ?side4 A20.out).mono ?_); (case side1 => repeat (first | exact (Kd.R_reads' HO375.out).2.2 | (with_reducible refine Kd.C_alloc ?_ _) | (with_reducible refine Kd.C_drewN ?_ _) | (with_reducible refine Kd.C_drew ?_))); (case side2 => exact (Kd.R_reads' HO375.out).2.1); (case side3 => repeat (first | exact (Kd.R_reads' HO380.out).2.2 | (with_reducible refine Kd.C_alloc ?_ _) | (with_reducible refine Kd.C_drewN ?_ _) | (with_reducible refine Kd.C_drew ?_))); (case side4 => exact (Kd.R_reads' HO380.out).2.1); rintro e w' ⟨rfl, ⟨nd, rfl⟩⟩) | (go_at_call 15; (with_reducible refine (ebbtideref10_Same.calls kj5 _ _ y360 _ _ l0 t383 _ ?side1 ?side2 ?side3 ?side4 A23.out).mono ?_); (case side1 => repeat (first | exact (Kd.R_reads' HO362.out).2.2 | (with_reducible refine Kd.C_alloc ?_ _) | (with_reducible refine Kd.C_drewN ?_ _) | (with_reducible refine Kd.C_drew ?_))); (case side2 => exact (Kd.R_reads' HO362.out).2.1); (case side3 => repeat (first | exact (Kd.C_below HR0.out (by repeat (first | (with_reducible first | exact HB.out | apply below_alloc | apply pw_below_drewN | apply below_drew1) | exact HB.out))) | (with_reducible refine Kd.C_alloc ?_ _) | (with_reducible refine Kd.C_drewN ?_ _) | (with_reducible refine Kd.C_drew ?_))); (case side4 => exact HC0.out); rintro e w' ⟨rfl, ⟨nd, rfl⟩⟩))
                      go_ret
                      exact ⟨by first | rfl | (simp [errW_none, errW_some] <;> rfl) | (simp [*, errW_none, errW_some] <;> rfl), by repeat (first | (with_reducible first | exact HB.out | apply below_alloc | apply pw_below_drewN | apply below_drew1) | exact HB.out)⟩
                    · rw [if_neg c22] at H
                      exact absurd H (by simp)
                  · replace c21 := Bool.eq_false_iff.mpr c21
                    subst c21
                    have H1 : (none) = some r := by rw [if_neg (show ¬ (false = true) by decide)] at H; exact H
                    clear H
                    have H := H1
                    clear H1
                    exact absurd H (by simp)
                · rw [if_neg c19] at H
                  exact absurd H (by simp)
              · replace c18 := Bool.eq_false_iff.mpr c18
                subst c18
                have H1 : (none) = some r := by rw [if_neg (show ¬ (false = true) by decide)] at H; exact H
                clear H
                have H := H1
                clear H1
                exact absurd H (by simp)
            · rw [if_neg c14] at H
              exact absurd H (by simp)
          · rw [if_neg c11] at H
            exact absurd H (by simp)
  · replace c5 := Bool.eq_false_iff.mpr c5
    subst c5
    have H1 : (none) = some r := by rw [if_neg (show ¬ (false = true) by decide)] at H; exact H
    clear H
    have H := H1
    clear H1
    exact absurd H (by simp)

/-- THE ONE PURE STATEMENT of ebbtidelaw10_ChainPuts. -/
def ebbtidelaw10_ChainPuts.Pure : Prop := ∀ (l0 : List (S40)) (l1 : List (S40)) (a2 : Int), (l0.length ≤ maxLen ∧ ∀ x0_ ∈ l0, Q40 x0_) → l0.length * 48 ≤ 140737488351232 → (l1.length ≤ maxLen ∧ ∀ x0_ ∈ l1, Q40 x0_) → l1.length * 48 ≤ 140737488351232 → ((Lit.int .i64 a2).wf = true) → ∃ k, ebbtidelaw10_ChainPuts.f k l0 l1 a2 = some true
theorem ebbtidelaw10_ChainPuts.walk (P : ebbtidelaw10_ChainPuts.Pure) (l0 : List (S40)) (l1 : List (S40)) (a2 : Int) (w : World) (A0 : Option Addr) (c0 : Nat) (hr0 : Kd.C k40 w A0 l0.length l0) (hc0 : l0.length ≤ c0) (A1 : Option Addr) (c1 : Nat) (hr1 : Kd.C k40 w A1 l1.length l1) (hc1 : l1.length ≤ c1) (q0 : l0.length ≤ maxLen ∧ ∀ x0_ ∈ l0, Q40 x0_) (y0 : l0.length * 48 ≤ 140737488351232) (q1 : l1.length ≤ maxLen ∧ ∀ x0_ ∈ l1, Q40 x0_) (y1 : l1.length * 48 ≤ 140737488351232) (q2 : (Lit.int .i64 a2).wf = true) :
    Calls Try.prog 4 #[.slice A0 l0.length c0, .slice A1 l1.length c1, .int .i64 a2] w fun e w' => e = .returned (.bool true) ∧ Below w.heap.size w w' := by
  obtain ⟨k, h⟩ := P l0 l1 a2 q0 y0 q1 y1 q2
  refine (ebbtidelaw10_ChainPuts.calls k A0 c0 l0 A1 c1 l1 a2 true w hr0 hc0 hr1 hc1 h).mono ?_
  rintro e w' ⟨rfl, hd⟩
  exact ⟨rfl, hd⟩

end Go.Proofs.Ythphlphkmfgkdaa.X
