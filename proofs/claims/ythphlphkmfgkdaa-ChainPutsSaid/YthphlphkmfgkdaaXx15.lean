/- Printed by a program of this session's own: what functions of the program compute, and that the machine computes it. -/
import Derived.Test.YthphlphkmfgkdaaXx0
import Derived.Test.YthphlphkmfgkdaaXx1
import Derived.Test.YthphlphkmfgkdaaXx3
import Derived.Test.YthphlphkmfgkdaaXx4
import Derived.Test.YthphlphkmfgkdaaXx12
import Derived.Test.YthphlphkmfgkdaaXx13
import Derived.Test.YthphlphkmfgkdaaXx14
namespace Go.Proofs.Ythphlphkmfgkdaa.X
open Go.RowKit Go.Proofs.YthphlphkmfgkdaaW.PrintWords Go.Proofs.YthphlphkmfgkdaaW.PrintLast Go.Proofs.YthphlphkmfgkdaaW.PrintMore
attribute [local go_sem] max2_int min2_int max_two min_two max_three min_three max_four min_four   -- for this text's walks alone
set_option linter.unusedVariables false
set_option linter.unusedSimpArgs false

attribute [local go_sem high] eqA28
/-! ### ebbtidelaw10_ChainTells: function 3 -/
def ebbtidelaw10_ChainTells.j0 : Nat → List (S40) → List (S40) → Int → Bool → Option (Bool)
  | 0, _, _, _, _ => none
  | k + 1, x0, x1, x2, x17 => if x17 = true then (some true) else ((some (([] : List (S40)) : List (S40))).bind fun y290 => (if y290.length + x0.length < 2932031007402 then ((some (y290 ++ x0 : List (S40))).bind fun y293 => ((chain_Right.f k y293).bind fun t296 => ((ebbtideref10_Right.f k x0).bind fun t297 => (if (t296 == t297) = true then ((chain_At.f k y293 x2).bind fun bt298 => ((ebbtideref10_At.f k x0 x2).bind fun bt303 => (if (bt298.1 == bt303.1 && ((bt298.2.1 == bt303.2.1 && (bt298.2.2.1 == bt303.2.2.1)) && (bt298.2.2.2.1 == bt303.2.2.2.1 && (bt298.2.2.2.2 == bt303.2.2.2.2)))) = true then ((chain_Last.f y293).bind fun t308 => ((ebbtideref10_Last.f x0).bind fun t309 => (if t308 = t309 then ((chain_Prune.f k y293 x2).bind fun t310 => ((ebbtideref10_Prune.f k x0 x2).bind fun t313 => ((ebbtideref10_Same.f k t310 t313).bind fun t316 => (if t316 = true then ((chain_Same.f k y293 x1).bind fun t317 => ((ebbtideref10_Same.f k x0 x1).bind fun t318 => (if (t317 == t318) = true then ((ebbtideref10_Same.f k y293 x0).bind fun t319 => (some t319)) else (none)))) else (none))))) else (none)))) else (none)))) else (none))))) else (none)))
def ebbtidelaw10_ChainTells.f (k : Nat) (l0 : List (S40)) (l1 : List (S40)) (a2 : Int) : Option (Bool) := (ebbtidelaw10_alive.f k).bind fun t289 => (if t289 = true then (if (l0.length : Int) > 200 then (ebbtidelaw10_ChainTells.j0 k l0 l1 a2 true) else (ebbtidelaw10_ChainTells.j0 k l0 l1 a2 (decide ((l1.length : Int) > 200)))) else (none))
theorem ebbtidelaw10_ChainTells.mono_l : ∀ k, (∀ y0 y1 y2 y3, LeO (ebbtidelaw10_ChainTells.j0 k y0 y1 y2 y3) (ebbtidelaw10_ChainTells.j0 (k + 1) y0 y1 y2 y3))
  | 0 => fun _ _ _ _ r h => by simp [ebbtidelaw10_ChainTells.j0] at h
  | k + 1 => by
    have ih0 := ebbtidelaw10_ChainTells.mono_l k
    · intro y0 y1 y2 y3
      unfold ebbtidelaw10_ChainTells.j0
      repeat' first
      | (with_reducible exact ih0 _ _ _ _)
      | (with_reducible exact chain_At.mono _ _ _)
      | (with_reducible exact chain_Prune.mono _ _ _)
      | (with_reducible exact chain_Right.mono _ _)
      | (with_reducible exact chain_Same.mono _ _ _)
      | (with_reducible exact ebbtidelaw10_alive.mono _)
      | (with_reducible exact ebbtideref10_At.mono _ _ _)
      | (with_reducible exact ebbtideref10_Prune.mono _ _ _)
      | (with_reducible exact ebbtideref10_Right.mono _ _)
      | (with_reducible exact ebbtideref10_Same.mono _ _ _)
      | (with_reducible exact LeO.refl _)
      | (with_reducible exact LeO.none _)
      | (with_reducible refine LeO.ite ?_ ?_)
      | (with_reducible refine LeO.bind ?_ (fun _ => ?_))
      | exact ih0 _ _ _ _
      | exact chain_At.mono _ _ _
      | exact chain_Prune.mono _ _ _
      | exact chain_Right.mono _ _
      | exact chain_Same.mono _ _ _
      | exact ebbtidelaw10_alive.mono _
      | exact ebbtideref10_At.mono _ _ _
      | exact ebbtideref10_Prune.mono _ _ _
      | exact ebbtideref10_Right.mono _ _
      | exact ebbtideref10_Same.mono _ _ _
      | exact LeO.none _
      | refine LeO.ite ?_ ?_
      | refine LeO.bind ?_ (fun _ => ?_)
theorem ebbtidelaw10_ChainTells.mono : ∀ a0 a1 a2 k, LeO (ebbtidelaw10_ChainTells.f k a0 a1 a2) (ebbtidelaw10_ChainTells.f (k + 1) a0 a1 a2) := by
  intro a0 a1 a2 k
  have ih0 := ebbtidelaw10_ChainTells.mono_l k
  unfold ebbtidelaw10_ChainTells.f
  repeat' first
      | (with_reducible exact ih0 _ _ _ _)
      | (with_reducible exact chain_At.mono _ _ _)
      | (with_reducible exact chain_Prune.mono _ _ _)
      | (with_reducible exact chain_Right.mono _ _)
      | (with_reducible exact chain_Same.mono _ _ _)
      | (with_reducible exact ebbtidelaw10_alive.mono _)
      | (with_reducible exact ebbtideref10_At.mono _ _ _)
      | (with_reducible exact ebbtideref10_Prune.mono _ _ _)
      | (with_reducible exact ebbtideref10_Right.mono _ _)
      | (with_reducible exact ebbtideref10_Same.mono _ _ _)
      | (with_reducible exact LeO.refl _)
      | (with_reducible exact LeO.none _)
      | (with_reducible refine LeO.ite ?_ ?_)
      | (with_reducible refine LeO.bind ?_ (fun _ => ?_))
      | exact ih0 _ _ _ _
      | exact chain_At.mono _ _ _
      | exact chain_Prune.mono _ _ _
      | exact chain_Right.mono _ _
      | exact chain_Same.mono _ _ _
      | exact ebbtidelaw10_alive.mono _
      | exact ebbtideref10_At.mono _ _ _
      | exact ebbtideref10_Prune.mono _ _ _
      | exact ebbtideref10_Right.mono _ _
      | exact ebbtideref10_Same.mono _ _ _
      | exact LeO.none _
      | refine LeO.ite ?_ ?_
      | refine LeO.bind ?_ (fun _ => ?_)
set_option maxHeartbeats 8000000 in
set_option maxRecDepth 100000 in
theorem ebbtidelaw10_ChainTells.calls (k : Nat) (A0 : Option Addr) (c0 : Nat) (l0 : List (S40)) (A1 : Option Addr) (c1 : Nat) (l1 : List (S40)) (a2 : Int) (r : Bool) (w : World) (hr0 : Kd.C k40 w A0 l0.length l0) (hc0 : l0.length ≤ c0) (hr1 : Kd.C k40 w A1 l1.length l1) (hc1 : l1.length ≤ c1) (h : ebbtidelaw10_ChainTells.f k l0 l1 a2 = some r) :
    Calls Try.prog 3 #[.slice A0 l0.length c0, .slice A1 l1.length c1, .int .i64 a2] w fun e w' => e = .returned (.bool r) ∧ Below w.heap.size w w' := by
  have HR0 := Aside0.mk hr0
  have HC0 := Aside0.mk hc0
  clear hr0 hc0
  have HR1 := Aside0.mk hr1
  have HC1 := Aside0.mk hc1
  clear hr1 hc1
  have HB := Aside0.mk (Below.refl w.heap.size w)
  have H : ((ebbtidelaw10_alive.f k).bind fun t289 => (if t289 = true then (if (l0.length : Int) > 200 then (ebbtidelaw10_ChainTells.j0 k l0 l1 a2 true) else (ebbtidelaw10_ChainTells.j0 k l0 l1 a2 (decide ((l1.length : Int) > 200)))) else (none))) = some r := h
  clear h
  replace H := Option.bind_eq_some_iff.mp H
  obtain ⟨t289, A40, H⟩ := H
  replace H : (if t289 = true then (if (l0.length : Int) > 200 then (ebbtidelaw10_ChainTells.j0 k l0 l1 a2 true) else (ebbtidelaw10_ChainTells.j0 k l0 l1 a2 (decide ((l1.length : Int) > 200)))) else (none)) = some r := H
  have A4 := Aside0.mk A40
  clear A40
  by_cases c5 : t289 = true
  · subst c5
    have H1 : (if (l0.length : Int) > 200 then (ebbtidelaw10_ChainTells.j0 k l0 l1 a2 true) else (ebbtidelaw10_ChainTells.j0 k l0 l1 a2 (decide ((l1.length : Int) > 200)))) = some r := by rw [if_pos rfl] at H; exact H
    clear H
    have H := H1
    clear H1
    have HC6 := Aside0.mk H
    clear H
    go_enter Try.func3, Try.ntmps3
    go_upto_region 3 with (first | ((with_reducible refine gate_callee (f := 8) rfl ?_); refine goesL_ (some 8) rfl rfl Try.func8 (by kernel_rfl) rfl #[] rfl (by (try simp only [List.map_toArray, List.map_cons, List.map_nil]); first | done | rfl | (simp only [List.length_drop, List.length_take]; rfl)) ?_; (with_reducible refine (ebbtidelaw10_alive.calls k  true _ A4.out).mono ?_); rintro e w7 ⟨rfl, hb⟩; refine ⟨_, rfl, ?_⟩; have n0_ := Aside0.mk (below_step (by repeat (first | (with_reducible first | exact HB.out | apply below_alloc | apply pw_below_drewN | apply below_drew1) | exact HB.out)) hb); clear HB; have HB := n0_; clear n0_; (try clear hb); (try clear hb2); (try clear hk); (try clear hi)))
    (try simp only [Act.put, List.setIfInBounds_toArray, List.set_cons_zero, List.set_cons_succ])
    go_cut [17] (fun v17 wc => ∃ (kq : Nat) (x17_5 : Bool), v17 = .bool x17_5 ∧ Aside0 (ebbtidelaw10_ChainTells.j0 kq l0 l1 a2 x17_5 = some r) ∧ Aside0 (kq ≤ k) ∧ Aside0 (Below w.heap.size w wc))
    case first =>
      have H := HC6.out
      clear HC6
      by_cases c8 : (l0.length : Int) > 200
      · rw [if_pos c8] at H
        have c8b0 : decide (200 < (l0.length : Int)) = true := decide_eq_true c8
        have c8b1 : decide (200 < l0.length) = true := decide_eq_true (by omega)
        clear c8
        (first | rw [c8b0] | (simp only [i64_w, i32_w]; rw [c8b0]) | skip)
        have H' := Aside0.mk H
        clear H
        go_wp2
        go_meet
        case rel => exact ⟨_, (true), (by first | rfl | (simp; done) | (simp [*]; done)), H', ⟨by first | omega | exact Nat.le_refl _⟩, ⟨by repeat (first | (with_reducible first | exact HB.out | apply below_alloc | apply pw_below_drewN | apply below_drew1) | exact HB.out)⟩⟩
      · rw [if_neg c8] at H
        have c8b0 : decide (200 < (l0.length : Int)) = false := decide_eq_false c8
        have c8b1 : decide (200 < l0.length) = false := decide_eq_false (by omega)
        clear c8
        (first | rw [c8b0] | (simp only [i64_w, i32_w]; rw [c8b0]) | skip)
        have H' := Aside0.mk H
        clear H
        go_wp2
        go_meet
        case rel => exact ⟨_, (decide ((l1.length : Int) > 200)), (by first | rfl | (simp; done) | (simp [*]; done)), H', ⟨by first | omega | exact Nat.le_refl _⟩, ⟨by repeat (first | (with_reducible first | exact HB.out | apply below_alloc | apply pw_below_drewN | apply below_drew1) | exact HB.out)⟩⟩
    case rest =>
      clear HC6
      try clear c1
      try clear p2
      try clear c3
      try clear c5
      try clear c8
      try clear c8b0
      try clear c8b1
      obtain ⟨kq, x17_5, rfl, HA, HJ5, HB⟩ := hcut
      cases kq with
      | zero => exact absurd HA.out (by simp [ebbtidelaw10_ChainTells.j0])
      | succ kj5 =>
        have H := HA.out
        clear HA
        simp only [ebbtidelaw10_ChainTells.j0] at H
        by_cases c9 : x17_5 = true
        · subst c9
          have H1 : (some true) = some r := by rw [if_pos rfl] at H; exact H
          clear H
          have H := H1
          clear H1
          obtain rfl := Option.some.inj H
          go_wp2
          go_ret
          exact ⟨by first | rfl | (simp [errW_none, errW_some] <;> rfl) | (simp [*, errW_none, errW_some] <;> rfl), by repeat (first | (with_reducible first | exact HB.out | apply below_alloc | apply pw_below_drewN | apply below_drew1) | exact HB.out)⟩
        · replace c9 := Bool.eq_false_iff.mpr c9
          subst c9
          have H1 : ((some (([] : List (S40)) : List (S40))).bind fun y290 => (if y290.length + l0.length < 2932031007402 then ((some (y290 ++ l0 : List (S40))).bind fun y293 => ((chain_Right.f kj5 y293).bind fun t296 => ((ebbtideref10_Right.f kj5 l0).bind fun t297 => (if (t296 == t297) = true then ((chain_At.f kj5 y293 a2).bind fun bt298 => ((ebbtideref10_At.f kj5 l0 a2).bind fun bt303 => (if (bt298.1 == bt303.1 && ((bt298.2.1 == bt303.2.1 && (bt298.2.2.1 == bt303.2.2.1)) && (bt298.2.2.2.1 == bt303.2.2.2.1 && (bt298.2.2.2.2 == bt303.2.2.2.2)))) = true then ((chain_Last.f y293).bind fun t308 => ((ebbtideref10_Last.f l0).bind fun t309 => (if t308 = t309 then ((chain_Prune.f kj5 y293 a2).bind fun t310 => ((ebbtideref10_Prune.f kj5 l0 a2).bind fun t313 => ((ebbtideref10_Same.f kj5 t310 t313).bind fun t316 => (if t316 = true then ((chain_Same.f kj5 y293 l1).bind fun t317 => ((ebbtideref10_Same.f kj5 l0 l1).bind fun t318 => (if (t317 == t318) = true then ((ebbtideref10_Same.f kj5 y293 l0).bind fun t319 => (some t319)) else (none)))) else (none))))) else (none)))) else (none)))) else (none))))) else (none))) = some r := by rw [if_neg (show ¬ (false = true) by decide)] at H; exact H
          clear H
          have H := H1
          clear H1
          obtain ⟨y290, hy290⟩ : ∃ y_ : List (S40), y_ = (([] : List (S40))) := ⟨_, rfl⟩
          replace H : (if y290.length + l0.length < 2932031007402 then ((some (y290 ++ l0 : List (S40))).bind fun y293 => ((chain_Right.f kj5 y293).bind fun t296 => ((ebbtideref10_Right.f kj5 l0).bind fun t297 => (if (t296 == t297) = true then ((chain_At.f kj5 y293 a2).bind fun bt298 => ((ebbtideref10_At.f kj5 l0 a2).bind fun bt303 => (if (bt298.1 == bt303.1 && ((bt298.2.1 == bt303.2.1 && (bt298.2.2.1 == bt303.2.2.1)) && (bt298.2.2.2.1 == bt303.2.2.2.1 && (bt298.2.2.2.2 == bt303.2.2.2.2)))) = true then ((chain_Last.f y293).bind fun t308 => ((ebbtideref10_Last.f l0).bind fun t309 => (if t308 = t309 then ((chain_Prune.f kj5 y293 a2).bind fun t310 => ((ebbtideref10_Prune.f kj5 l0 a2).bind fun t313 => ((ebbtideref10_Same.f kj5 t310 t313).bind fun t316 => (if t316 = true then ((chain_Same.f kj5 y293 l1).bind fun t317 => ((ebbtideref10_Same.f kj5 l0 l1).bind fun t318 => (if (t317 == t318) = true then ((ebbtideref10_Same.f kj5 y293 l0).bind fun t319 => (some t319)) else (none)))) else (none))))) else (none)))) else (none)))) else (none))))) else (none)) = some r := by first | (rw [hy290]; with_reducible exact H) | (have H2_ := (Option.bind_some _ _).symm.trans H; rw [hy290]; with_reducible exact H2_) | (have H2_ := (Option.bind_some _ _).symm.trans H; with_reducible exact H2_) | with_reducible exact H | (rw [hy290]; exact H) | exact H
          have Ny290 := Aside0.mk hy290
          clear hy290
          by_cases c10 : y290.length + l0.length < 2932031007402
          · rw [if_pos c10] at H
            have LMc10 := Aside0.mk c10
            clear c10
            obtain ⟨y293, hy293⟩ : ∃ y_ : List (S40), y_ = (y290 ++ l0) := ⟨_, rfl⟩
            replace H : ((chain_Right.f kj5 y293).bind fun t296 => ((ebbtideref10_Right.f kj5 l0).bind fun t297 => (if (t296 == t297) = true then ((chain_At.f kj5 y293 a2).bind fun bt298 => ((ebbtideref10_At.f kj5 l0 a2).bind fun bt303 => (if (bt298.1 == bt303.1 && ((bt298.2.1 == bt303.2.1 && (bt298.2.2.1 == bt303.2.2.1)) && (bt298.2.2.2.1 == bt303.2.2.2.1 && (bt298.2.2.2.2 == bt303.2.2.2.2)))) = true then ((chain_Last.f y293).bind fun t308 => ((ebbtideref10_Last.f l0).bind fun t309 => (if t308 = t309 then ((chain_Prune.f kj5 y293 a2).bind fun t310 => ((ebbtideref10_Prune.f kj5 l0 a2).bind fun t313 => ((ebbtideref10_Same.f kj5 t310 t313).bind fun t316 => (if t316 = true then ((chain_Same.f kj5 y293 l1).bind fun t317 => ((ebbtideref10_Same.f kj5 l0 l1).bind fun t318 => (if (t317 == t318) = true then ((ebbtideref10_Same.f kj5 y293 l0).bind fun t319 => (some t319)) else (none)))) else (none))))) else (none)))) else (none)))) else (none)))) = some r := by first | (rw [hy293]; with_reducible exact H) | (have H2_ := (Option.bind_some _ _).symm.trans H; rw [hy293]; with_reducible exact H2_) | (have H2_ := (Option.bind_some _ _).symm.trans H; with_reducible exact H2_) | with_reducible exact H | (rw [hy293]; exact H) | exact H
            have Ny293 := Aside0.mk hy293
            clear hy293
            replace H := Option.bind_eq_some_iff.mp H
            obtain ⟨t296, A110, H⟩ := H
            replace H : ((ebbtideref10_Right.f kj5 l0).bind fun t297 => (if (t296 == t297) = true then ((chain_At.f kj5 y293 a2).bind fun bt298 => ((ebbtideref10_At.f kj5 l0 a2).bind fun bt303 => (if (bt298.1 == bt303.1 && ((bt298.2.1 == bt303.2.1 && (bt298.2.2.1 == bt303.2.2.1)) && (bt298.2.2.2.1 == bt303.2.2.2.1 && (bt298.2.2.2.2 == bt303.2.2.2.2)))) = true then ((chain_Last.f y293).bind fun t308 => ((ebbtideref10_Last.f l0).bind fun t309 => (if t308 = t309 then ((chain_Prune.f kj5 y293 a2).bind fun t310 => ((ebbtideref10_Prune.f kj5 l0 a2).bind fun t313 => ((ebbtideref10_Same.f kj5 t310 t313).bind fun t316 => (if t316 = true then ((chain_Same.f kj5 y293 l1).bind fun t317 => ((ebbtideref10_Same.f kj5 l0 l1).bind fun t318 => (if (t317 == t318) = true then ((ebbtideref10_Same.f kj5 y293 l0).bind fun t319 => (some t319)) else (none)))) else (none))))) else (none)))) else (none)))) else (none))) = some r := H
            have A11 := Aside0.mk A110
            clear A110
            replace H := Option.bind_eq_some_iff.mp H
            obtain ⟨t297, A120, H⟩ := H
            replace H : (if (t296 == t297) = true then ((chain_At.f kj5 y293 a2).bind fun bt298 => ((ebbtideref10_At.f kj5 l0 a2).bind fun bt303 => (if (bt298.1 == bt303.1 && ((bt298.2.1 == bt303.2.1 && (bt298.2.2.1 == bt303.2.2.1)) && (bt298.2.2.2.1 == bt303.2.2.2.1 && (bt298.2.2.2.2 == bt303.2.2.2.2)))) = true then ((chain_Last.f y293).bind fun t308 => ((ebbtideref10_Last.f l0).bind fun t309 => (if t308 = t309 then ((chain_Prune.f kj5 y293 a2).bind fun t310 => ((ebbtideref10_Prune.f kj5 l0 a2).bind fun t313 => ((ebbtideref10_Same.f kj5 t310 t313).bind fun t316 => (if t316 = true then ((chain_Same.f kj5 y293 l1).bind fun t317 => ((ebbtideref10_Same.f kj5 l0 l1).bind fun t318 => (if (t317 == t318) = true then ((ebbtideref10_Same.f kj5 y293 l0).bind fun t319 => (some t319)) else (none)))) else (none))))) else (none)))) else (none)))) else (none)) = some r := H
            have A12 := Aside0.mk A120
            clear A120
            by_cases c13 : (t296 == t297) = true
            · rw [if_pos c13] at H
              have c13b0 : (t296 == t297) = true := c13
              (try (have c13b1 : decide (t296 = t297) = true := by simpa using c13))
              (try (have c13b2 : (t296 == t297) = true := by simpa using c13))
              clear c13
              replace H := Option.bind_eq_some_iff.mp H
              obtain ⟨⟨t298, t299, t300, t301, t302⟩, A140, H⟩ := H
              replace H : ((ebbtideref10_At.f kj5 l0 a2).bind fun bt303 => (if (t298 == bt303.1 && ((t299 == bt303.2.1 && (t300 == bt303.2.2.1)) && (t301 == bt303.2.2.2.1 && (t302 == bt303.2.2.2.2)))) = true then ((chain_Last.f y293).bind fun t308 => ((ebbtideref10_Last.f l0).bind fun t309 => (if t308 = t309 then ((chain_Prune.f kj5 y293 a2).bind fun t310 => ((ebbtideref10_Prune.f kj5 l0 a2).bind fun t313 => ((ebbtideref10_Same.f kj5 t310 t313).bind fun t316 => (if t316 = true then ((chain_Same.f kj5 y293 l1).bind fun t317 => ((ebbtideref10_Same.f kj5 l0 l1).bind fun t318 => (if (t317 == t318) = true then ((ebbtideref10_Same.f kj5 y293 l0).bind fun t319 => (some t319)) else (none)))) else (none))))) else (none)))) else (none))) = some r := H
              have A14 := Aside0.mk A140
              clear A140
              replace H := Option.bind_eq_some_iff.mp H
              obtain ⟨⟨t303, t304, t305, t306, t307⟩, A150, H⟩ := H
              replace H : (if (t298 == t303 && ((t299 == t304 && (t300 == t305)) && (t301 == t306 && (t302 == t307)))) = true then ((chain_Last.f y293).bind fun t308 => ((ebbtideref10_Last.f l0).bind fun t309 => (if t308 = t309 then ((chain_Prune.f kj5 y293 a2).bind fun t310 => ((ebbtideref10_Prune.f kj5 l0 a2).bind fun t313 => ((ebbtideref10_Same.f kj5 t310 t313).bind fun t316 => (if t316 = true then ((chain_Same.f kj5 y293 l1).bind fun t317 => ((ebbtideref10_Same.f kj5 l0 l1).bind fun t318 => (if (t317 == t318) = true then ((ebbtideref10_Same.f kj5 y293 l0).bind fun t319 => (some t319)) else (none)))) else (none))))) else (none)))) else (none)) = some r := H
              have A15 := Aside0.mk A150
              clear A150
              by_cases c16 : (t298 == t303 && ((t299 == t304 && (t300 == t305)) && (t301 == t306 && (t302 == t307)))) = true
              · rw [if_pos c16] at H
                have c16b0 : (t298 == t303 && ((t299 == t304 && (t300 == t305)) && (t301 == t306 && (t302 == t307)))) = true := c16
                (try (have c16b1 : decide (t298 = t303 && ((t299 == t304 && (t300 == t305)) && (t301 == t306 && (t302 == t307)))) = true := by simpa using c16))
                (try (have c16b2 : (t298 == t303 && ((t299 == t304 && (t300 == t305)) && (t301 == t306 && (t302 == t307)))) = true := by simpa using c16))
                clear c16
                replace H := Option.bind_eq_some_iff.mp H
                obtain ⟨t308, A170, H⟩ := H
                replace H : ((ebbtideref10_Last.f l0).bind fun t309 => (if t308 = t309 then ((chain_Prune.f kj5 y293 a2).bind fun t310 => ((ebbtideref10_Prune.f kj5 l0 a2).bind fun t313 => ((ebbtideref10_Same.f kj5 t310 t313).bind fun t316 => (if t316 = true then ((chain_Same.f kj5 y293 l1).bind fun t317 => ((ebbtideref10_Same.f kj5 l0 l1).bind fun t318 => (if (t317 == t318) = true then ((ebbtideref10_Same.f kj5 y293 l0).bind fun t319 => (some t319)) else (none)))) else (none))))) else (none))) = some r := H
                have A17 := Aside0.mk A170
                clear A170
                replace H := Option.bind_eq_some_iff.mp H
                obtain ⟨t309, A180, H⟩ := H
                replace H : (if t308 = t309 then ((chain_Prune.f kj5 y293 a2).bind fun t310 => ((ebbtideref10_Prune.f kj5 l0 a2).bind fun t313 => ((ebbtideref10_Same.f kj5 t310 t313).bind fun t316 => (if t316 = true then ((chain_Same.f kj5 y293 l1).bind fun t317 => ((ebbtideref10_Same.f kj5 l0 l1).bind fun t318 => (if (t317 == t318) = true then ((ebbtideref10_Same.f kj5 y293 l0).bind fun t319 => (some t319)) else (none)))) else (none))))) else (none)) = some r := H
                have A18 := Aside0.mk A180
                clear A180
                by_cases c19 : t308 = t309
                · rw [if_pos c19] at H
                  have c19b0 : (t308 == t309) = true := beq_iff_eq.mpr c19
                  have c19b1 : (t308 != t309) = false := bne_eq_false_iff_eq.mpr c19
                  clear c19
                  replace H := Option.bind_eq_some_iff.mp H
                  obtain ⟨t310, A200, H⟩ := H
                  replace H : ((ebbtideref10_Prune.f kj5 l0 a2).bind fun t313 => ((ebbtideref10_Same.f kj5 t310 t313).bind fun t316 => (if t316 = true then ((chain_Same.f kj5 y293 l1).bind fun t317 => ((ebbtideref10_Same.f kj5 l0 l1).bind fun t318 => (if (t317 == t318) = true then ((ebbtideref10_Same.f kj5 y293 l0).bind fun t319 => (some t319)) else (none)))) else (none)))) = some r := H
                  have A20 := Aside0.mk A200
                  clear A200
                  replace H := Option.bind_eq_some_iff.mp H
                  obtain ⟨t313, A210, H⟩ := H
                  replace H : ((ebbtideref10_Same.f kj5 t310 t313).bind fun t316 => (if t316 = true then ((chain_Same.f kj5 y293 l1).bind fun t317 => ((ebbtideref10_Same.f kj5 l0 l1).bind fun t318 => (if (t317 == t318) = true then ((ebbtideref10_Same.f kj5 y293 l0).bind fun t319 => (some t319)) else (none)))) else (none))) = some r := H
                  have A21 := Aside0.mk A210
                  clear A210
                  replace H := Option.bind_eq_some_iff.mp H
                  obtain ⟨t316, A220, H⟩ := H
                  replace H : (if t316 = true then ((chain_Same.f kj5 y293 l1).bind fun t317 => ((ebbtideref10_Same.f kj5 l0 l1).bind fun t318 => (if (t317 == t318) = true then ((ebbtideref10_Same.f kj5 y293 l0).bind fun t319 => (some t319)) else (none)))) else (none)) = some r := H
                  have A22 := Aside0.mk A220
                  clear A220
                  by_cases c23 : t316 = true
                  · subst c23
                    have H1 : ((chain_Same.f kj5 y293 l1).bind fun t317 => ((ebbtideref10_Same.f kj5 l0 l1).bind fun t318 => (if (t317 == t318) = true then ((ebbtideref10_Same.f kj5 y293 l0).bind fun t319 => (some t319)) else (none)))) = some r := by rw [if_pos rfl] at H; exact H
                    clear H
                    have H := H1
                    clear H1
                    replace H := Option.bind_eq_some_iff.mp H
                    obtain ⟨t317, A240, H⟩ := H
                    replace H : ((ebbtideref10_Same.f kj5 l0 l1).bind fun t318 => (if (t317 == t318) = true then ((ebbtideref10_Same.f kj5 y293 l0).bind fun t319 => (some t319)) else (none))) = some r := H
                    have A24 := Aside0.mk A240
                    clear A240
                    replace H := Option.bind_eq_some_iff.mp H
                    obtain ⟨t318, A250, H⟩ := H
                    replace H : (if (t317 == t318) = true then ((ebbtideref10_Same.f kj5 y293 l0).bind fun t319 => (some t319)) else (none)) = some r := H
                    have A25 := Aside0.mk A250
                    clear A250
                    by_cases c26 : (t317 == t318) = true
                    · rw [if_pos c26] at H
                      have c26b0 : (t317 == t318) = true := c26
                      (try (have c26b1 : decide (t317 = t318) = true := by simpa using c26))
                      (try (have c26b2 : (t317 == t318) = true := by simpa using c26))
                      clear c26
                      replace H := Option.bind_eq_some_iff.mp H
                      obtain ⟨t319, A270, H⟩ := H
                      replace H : (some t319) = some r := H
                      have A27 := Aside0.mk A270
                      clear A270
                      obtain rfl := Option.some.inj H
                      go_wp2_with (first | ((with_reducible refine gate_dst (N := 18) rfl ?_); (try (refine gate_guard (by rfl) ?_; dsimp only)); refine Kd.R_lit k40 _ 40 ?hg (N := 18) ?hd (xs := ([] : List (S40))) (inner := []) (ok := fun _ => True) (okp := fun _ => True) ?hr ?hp (fun _ hk => hk) trivial (Below.refl _ _) (Nat.le_refl _) (by simp) ?_; (case hd => rfl); (case hg => rfl); (case hr => first | (go_simp; done) | (go_simp; rfl)); (case hp => exact (Reps.none _ _)); intro v291 w28 ho29 hb hg_ hnew_; clear hg_ hnew_; (first | rw [← Ny290.out] at ho29 | (simp only [Int.reduceToNat] at ho29; rw [← Ny290.out] at ho29)); have n0_ := Aside0.mk (Kd.R_lower ho29 (below_size (by repeat (first | (with_reducible first | exact HB.out | apply below_alloc | apply pw_below_drewN | apply below_drew1) | exact HB.out)))); have n1_ := Aside0.mk (below_step (by repeat (first | (with_reducible first | exact HB.out | apply below_alloc | apply pw_below_drewN | apply below_drew1) | exact HB.out)) hb); clear HB; have HO292 := n0_; have HB := n1_; clear n0_ n1_; clear hb ho29) | ((with_reducible refine gate_builtin (b := .append) (xs := #[.tmp 18, .tmp 19]) rfl ?_); (try (refine gate_guard (by rfl) ?_; dsimp only)); at_builtin; refine Kd.R_append_rows k40 (w0 := w) w.heap.size rfl (.tmp 18) (.tmp 19) 22 40 (.agg #[(.int .i64 0), (.int .i64 0), (.int .i64 0), (.bool false), (.int .i64 0), (.int .i64 0)]) 48 rfl Try.underlying22 info40 rfl (by decide) (by omega) v291 y290 l0 _ _ _ (fun _ => True) (fun _ => False) rfl rfl ?aO ?aR (fun _ _ h => h) (fun _ h => h.elim) ?aF ?aB ?aS ?aL ?_; (case aR => repeat (first | exact (Kd.C_below HR0.out HB.out) | (with_reducible refine Kd.C_alloc ?_ _) | (with_reducible refine Kd.C_drewN ?_ _) | (with_reducible refine Kd.C_drew ?_))); (case aB => exact (by repeat (first | (with_reducible first | exact HB.out | apply below_alloc | apply pw_below_drewN | apply below_drew1) | exact HB.out))); (case aF => exact (fun _ _ => trivial)); (case aO => exact (by (with_reducible repeat (first | apply Kd.R_alloc | apply Kd.R_drewN | apply Kd.R_drew)); exact HO292.out)); (case aS => exact (below_size (by repeat (first | (with_reducible first | exact HB.out | apply below_alloc | apply pw_below_drewN | apply below_drew1) | exact HB.out)))); (case aL => have := LMc10.out; omega); intro v294 w30 ho hb hg hat; rw [← Ny293.out] at ho; have n0_ := Aside0.mk (hb); have n1_ := Aside0.mk (ho); clear HB; clear HO292; have HB := n0_; have HO295 := n1_; clear n0_ n1_; clear ho hb hg hat; obtain ⟨Ao31, co31, eo31⟩ := Kd.R_slice HO295.out; subst eo31) | ((with_reducible refine gate_callee (f := 9) rfl ?_); refine goesL_ (some 22) rfl rfl Try.func9 (by kernel_rfl) rfl #[.slice Ao31 y293.length co31] rfl (by (try simp only [List.map_toArray, List.map_cons, List.map_nil]); first | done | rfl | (simp only [List.length_drop, List.length_take]; rfl)) ?_; (with_reducible refine (chain_Right.calls kj5 _ _ y293 t296 _ ?side1 ?side2 A11.out).mono ?_); (case side1 => repeat (first | exact (Kd.R_reads' HO295.out).2.2 | (with_reducible refine Kd.C_alloc ?_ _) | (with_reducible refine Kd.C_drewN ?_ _) | (with_reducible refine Kd.C_drew ?_))); (case side2 => exact (Kd.R_reads' HO295.out).2.1); rintro e w32 ⟨rfl, hb⟩; refine ⟨_, rfl, ?_⟩; have n0_ := Aside0.mk (Kd.R_below (by (with_reducible repeat (first | apply Kd.R_alloc | apply Kd.R_drewN | apply Kd.R_drew)); exact HO295.out) hb); have n1_ := Aside0.mk (below_step (by repeat (first | (with_reducible first | exact HB.out | apply below_alloc | apply pw_below_drewN | apply below_drew1) | exact HB.out)) hb); clear HO295; clear HB; have HO295 := n0_; have HB := n1_; clear n0_ n1_; (try clear hb); (try clear hb2); (try clear hk); (try clear hi)) | ((with_reducible refine gate_callee (f := 10) rfl ?_); refine goesL_ (some 24) rfl rfl Try.func10 (by kernel_rfl) rfl #[.slice A0 l0.length c0] rfl (by (try simp only [List.map_toArray, List.map_cons, List.map_nil]); first | done | rfl | (simp only [List.length_drop, List.length_take]; rfl)) ?_; (with_reducible refine (ebbtideref10_Right.calls kj5 _ _ l0 t297 _ ?side1 ?side2 A12.out).mono ?_); (case side1 => repeat (first | exact (Kd.C_below HR0.out HB.out) | (with_reducible refine Kd.C_alloc ?_ _) | (with_reducible refine Kd.C_drewN ?_ _) | (with_reducible refine Kd.C_drew ?_))); (case side2 => exact HC0.out); rintro e w' ⟨rfl, ⟨nd, rfl⟩⟩; refine ⟨_, rfl, ?_⟩) | (go_at_call 11; (with_reducible refine (chain_At.calls kj5 _ _ y293 a2 t298 t299 t300 t301 t302 _ ?side1 ?side2 A14.out).mono ?_); (case side1 => repeat (first | exact (Kd.R_reads' HO295.out).2.2 | (with_reducible refine Kd.C_alloc ?_ _) | (with_reducible refine Kd.C_drewN ?_ _) | (with_reducible refine Kd.C_drew ?_))); (case side2 => exact (Kd.R_reads' HO295.out).2.1); rintro e w33 ⟨rfl, hb⟩; have n0_ := Aside0.mk (Kd.R_below (by (with_reducible repeat (first | apply Kd.R_alloc | apply Kd.R_drewN | apply Kd.R_drew)); exact HO295.out) hb); have n1_ := Aside0.mk (below_step (by repeat (first | (with_reducible first | exact HB.out | apply below_alloc | apply pw_below_drewN | apply below_drew1) | exact HB.out)) hb); clear HO295; clear HB; have HO295 := n0_; have HB := n1_; clear n0_ n1_; (try clear hb); (try clear hb2); (try clear hk); (try clear hi)) | (go_at_call 12; (with_reducible refine (ebbtideref10_At.calls kj5 _ _ l0 a2 t303 t304 t305 t306 t307 _ ?side1 ?side2 A15.out).mono ?_); (case side1 => repeat (first | exact (Kd.C_below HR0.out HB.out) | (with_reducible refine Kd.C_alloc ?_ _) | (with_reducible refine Kd.C_drewN ?_ _) | (with_reducible refine Kd.C_drew ?_))); (case side2 => exact HC0.out); rintro e w34 ⟨rfl, hb⟩; have n0_ := Aside0.mk (Kd.R_below (by (with_reducible repeat (first | apply Kd.R_alloc | apply Kd.R_drewN | apply Kd.R_drew)); exact HO295.out) hb); have n1_ := Aside0.mk (below_step (by repeat (first | (with_reducible first | exact HB.out | apply below_alloc | apply pw_below_drewN | apply below_drew1) | exact HB.out)) hb); clear HO295; clear HB; have HO295 := n0_; have HB := n1_; clear n0_ n1_; (try clear hb); (try clear hb2); (try clear hk); (try clear hi)) | (go_at_call 13; (with_reducible refine (chain_Last.calls _ _ y293 t308 _ ?side1 ?side2 A17.out).mono ?_); (case side1 => repeat (first | exact (Kd.R_reads' HO295.out).2.2 | (with_reducible refine Kd.C_alloc ?_ _) | (with_reducible refine Kd.C_drewN ?_ _) | (with_reducible refine Kd.C_drew ?_))); (case side2 => exact (Kd.R_reads' HO295.out).2.1); rintro e w' ⟨rfl, ⟨nd, rfl⟩⟩) | (go_at_call 14; (with_reducible refine (ebbtideref10_Last.calls _ _ l0 t309 _ ?side1 ?side2 A18.out).mono ?_); (case side1 => repeat (first | exact (Kd.C_below HR0.out (by repeat (first | (with_reducible first | exact HB.out | apply below_alloc | apply pw_below_drewN | apply below_drew1) | exact HB.out))) | (with_reducible refine Kd.C_alloc ?_ _) | (with_reducible refine Kd.C_drewN ?_ _) | (with_reducible refine Kd.C_drew ?_))); (case side2 => exact HC0.out); rintro e w' ⟨rfl, ⟨nd, rfl⟩⟩) | (go_at_call 16; (with_reducible refine (chain_Prune.calls kj5 _ _ y293 a2 t310 _ ?side1 ?side2 A20.out).mono ?_); (case side1 => repeat (first | exact (Kd.R_reads' HO295.out).2.2 | (with_reducible refine Kd.C_alloc ?_ _) | (with_reducible refine Kd.C_drewN ?_ _) | (with_reducible refine Kd.C_drew ?_))); (case side2 => exact (Kd.R_reads' HO295.out).2.1); rintro e w35 ⟨v311, rfl, ho0, hb⟩; have n0_ := Aside0.mk (Kd.R_elder' (by (with_reducible repeat (first | apply Kd.R_alloc | apply Kd.R_drewN | apply Kd.R_drew)); exact HO295.out) (Kd.R_base ho0) hb); have n1_ := Aside0.mk (Kd.R_lower (Kd.R_new' ho0 (Kd.R_lt (by (with_reducible repeat (first | apply Kd.R_alloc | apply Kd.R_drewN | apply Kd.R_drew)); exact HO295.out))) (below_size (by repeat (first | (with_reducible first | exact HB.out | apply below_alloc | apply pw_below_drewN | apply below_drew1) | exact HB.out)))); have n2_ := Aside0.mk (below_step (by repeat (first | (with_reducible first | exact HB.out | apply below_alloc | apply pw_below_drewN | apply below_drew1) | exact HB.out)) hb); clear HO295; clear HB; have HO295 := n0_; have HO312 := n1_; have HB := n2_; clear n0_ n1_ n2_; (try clear hb); (try clear hb2); (try clear hk); (try clear hi); (try clear ho0)) | (go_at_call 17; (with_reducible refine (ebbtideref10_Prune.calls kj5 _ _ l0 a2 t313 _ ?side1 ?side2 A21.out).mono ?_); (case side1 => repeat (first | exact (Kd.C_below HR0.out HB.out) | (with_reducible refine Kd.C_alloc ?_ _) | (with_reducible refine Kd.C_drewN ?_ _) | (with_reducible refine Kd.C_drew ?_))); (case side2 => exact HC0.out); rintro e w36 ⟨v314, rfl, ho0, hb⟩; have n0_ := Aside0.mk (Kd.R_elder' (by (with_reducible repeat (first | apply Kd.R_alloc | apply Kd.R_drewN | apply Kd.R_drew)); exact HO295.out) (Kd.R_base ho0) hb); have n1_ := Aside0.mk (Kd.R_elder' (by (with_reducible repeat (first | apply Kd.R_alloc | apply Kd.R_drewN | apply Kd.R_drew)); exact HO312.out) (Kd.R_base ho0) hb); have n2_ := Aside0.mk (Kd.R_lower (Kd.R_new' (Kd.R_new' ho0 (Kd.R_lt (by (with_reducible repeat (first | apply Kd.R_alloc | apply Kd.R_drewN | apply Kd.R_drew)); exact HO295.out))) (Kd.R_lt (by (with_reducible repeat (first | apply Kd.R_alloc | apply Kd.R_drewN | apply Kd.R_drew)); exact HO312.out))) (below_size (by repeat (first | (with_reducible first | exact HB.out | apply below_alloc | apply pw_below_drewN | apply below_drew1) | exact HB.out)))); have n3_ := Aside0.mk (below_step (by repeat (first | (with_reducible first | exact HB.out | apply below_alloc | apply pw_below_drewN | apply below_drew1) | exact HB.out)) hb); clear HO295; clear HO312; clear HB; have HO295 := n0_; have HO312 := n1_; have HO315 := n2_; have HB := n3_; clear n0_ n1_ n2_ n3_; (try clear hb); (try clear hb2); (try clear hk); (try clear hi); (try clear ho0); obtain ⟨Ao37, co37, eo37⟩ := Kd.R_slice HO312.out; subst eo37; obtain ⟨Ao38, co38, eo38⟩ := Kd.R_slice HO315.out; subst eo38) | (go_at_call 15; (with_reducible refine (ebbtideref10_Same.calls kj5 _ _ t310 _ _ t313 true _ ?side1 ?side2 ?side3 ?side4 A22.out).mono ?_); (case side1 => repeat (first | exact (Kd.R_reads' HO312.out).2.2 | (with_reducible refine Kd.C_alloc ?_ _) | (with_reducible refine Kd.C_drewN ?_ _) | (with_reducible refine Kd.C_drew ?_))); (case side2 => exact (Kd.R_reads' HO312.out).2.1); (case side3 => repeat (first | exact (Kd.R_reads' HO315.out).2.2 | (with_reducible refine Kd.C_alloc ?_ _) | (with_reducible refine Kd.C_drewN ?_ _) | (with_reducible refine Kd.C_drew ?_))); (case side4 => exact (Kd.R_reads' HO315.out).2.1); rintro e w' ⟨rfl, ⟨nd, rfl⟩⟩) | (go_at_call 18; (with_reducible refine (chain_Same.calls kj5 _ _ y293 _ _ l1 t317 _ ?side1 ?side2 ?side3 ?side4 A24.out).mono ?_); (case side1 => repeat (first | exact (Kd.R_reads' HO295.out).2.2 | (with_reducible refine Kd.C_alloc ?_ _) | (with_reducible refine Kd.C_drewN ?_ _) | (with_reducible refine Kd.C_drew ?_))); (case side2 => exact (Kd.R_reads' HO295.out).2.1); (case side3 => repeat (first | exact (Kd.C_below HR1.out (by repeat (first | (with_reducible first | exact HB.out | apply below_alloc | apply pw_below_drewN | apply below_drew1) | exact HB.out))) | (with_reducible refine Kd.C_alloc ?_ _) | (with_reducible refine Kd.C_drewN ?_ _) | (with_reducible refine Kd.C_drew ?_))); (case side4 => exact HC1.out); rintro e w' ⟨rfl, ⟨nd, rfl⟩⟩) | (go_at_call 15; (with_reducible refine (ebbtideref10_Same.calls kj5 _ _ l0 _ _ l1 t318 _ ?side1 ?side2 ?side3 ?side4 A25.out).mono ?_); (case side1 => repeat (first | exact (Kd.C_below HR0.out (by repeat (first | (with_reducible first | exact HB.out | apply below_alloc | apply pw_below_drewN | apply below_drew1) | exact HB.out))) | (with_reducible refine Kd.C_alloc ?_ _) | (with_reducible refine Kd.C_drewN ?_ _) | (with_reducible refine Kd.C_drew ?_))); (case side2 => exact HC0.out); (case side3 => repeat (first | exact (Kd.C_below HR1.out (by repeat (first | (with_reducible first | exact HB.out | apply below_alloc | apply pw_below_drewN | apply below_drew1) | exact HB.out))) | (with_reducible refine Kd.C_alloc ?_ _) | (with_reducible refine Kd.C_drewN ?_ _) | (with_reducible refine Kd.C_drew ?_))); (case side4 => exact HC1.out); rintro e w' ⟨rfl, ⟨nd, rfl⟩⟩) | (go_at_call 15; (with_reducible refine (ebbtideref10_Same.calls kj5 _ _ y293 _ _ l0 t319 _ ?side1 ?side2 ?side3 ?side4 A27.out).mono ?_); (case side1 => repeat (first | exact (Kd.R_reads' HO295.out).2.2 | (with_reducible refine Kd.C_alloc ?_ _) | (with_reducible refine Kd.C_drewN ?_ _) | (with_reducible refine Kd.C_drew ?_))); (case side2 => exact (Kd.R_reads' HO295.out).2.1); (case side3 => repeat (first | exact (Kd.C_below HR0.out (by repeat (first | (with_reducible first | exact HB.out | apply below_alloc | apply pw_below_drewN | apply below_drew1) | exact HB.out))) | (with_reducible refine Kd.C_alloc ?_ _) | (with_reducible refine Kd.C_drewN ?_ _) | (with_reducible refine Kd.C_drew ?_))); (case side4 => exact HC0.out); rintro e w' ⟨rfl, ⟨nd, rfl⟩⟩))
                      go_ret
                      exact ⟨by first | rfl | (simp [errW_none, errW_some] <;> rfl) | (simp [*, errW_none, errW_some] <;> rfl), by repeat (first | (with_reducible first | exact HB.out | apply below_alloc | apply pw_below_drewN | apply below_drew1) | exact HB.out)⟩
                    · rw [if_neg c26] at H
                      exact absurd H (by simp)
                  · replace c23 := Bool.eq_false_iff.mpr c23
                    subst c23
                    have H1 : (none) = some r := by rw [if_neg (show ¬ (false = true) by decide)] at H; exact H
                    clear H
                    have H := H1
                    clear H1
                    exact absurd H (by simp)
                · rw [if_neg c19] at H
                  exact absurd H (by simp)
              · rw [if_neg c16] at H
                exact absurd H (by simp)
            · rw [if_neg c13] at H
              exact absurd H (by simp)
          · rw [if_neg c10] at H
            exact absurd H (by simp)
  · replace c5 := Bool.eq_false_iff.mpr c5
    subst c5
    have H1 : (none) = some r := by rw [if_neg (show ¬ (false = true) by decide)] at H; exact H
    clear H
    have H := H1
    clear H1
    exact absurd H (by simp)

/-- What every value of type 26 that is read is like. -/
def Q26 (x : S26) : Prop := ((Lit.int .i64 x.f0).wf = true) ∧ (True)
/-- What every value of type 28 that is read is like. -/
def Q28 (x : S28) : Prop := ((Lit.int .i64 x.f0).wf = true) ∧ (Q26 x.f1) ∧ ((Lit.int .i64 x.f2).wf = true) ∧ ((Lit.int .i64 x.f3).wf = true)
/-- What every value of type 40 that is read is like. -/
def Q40 (x : S40) : Prop := ((Lit.int .i64 x.f0).wf = true) ∧ (Q28 x.f1)
/-- THE ONE PURE STATEMENT of ebbtidelaw10_ChainTells. -/
def ebbtidelaw10_ChainTells.Pure : Prop := ∀ (l0 : List (S40)) (l1 : List (S40)) (a2 : Int), (l0.length ≤ maxLen ∧ ∀ x0_ ∈ l0, Q40 x0_) → l0.length * 48 ≤ 140737488351232 → (l1.length ≤ maxLen ∧ ∀ x0_ ∈ l1, Q40 x0_) → l1.length * 48 ≤ 140737488351232 → ((Lit.int .i64 a2).wf = true) → ∃ k, ebbtidelaw10_ChainTells.f k l0 l1 a2 = some true
theorem ebbtidelaw10_ChainTells.walk (P : ebbtidelaw10_ChainTells.Pure) (l0 : List (S40)) (l1 : List (S40)) (a2 : Int) (w : World) (A0 : Option Addr) (c0 : Nat) (hr0 : Kd.C k40 w A0 l0.length l0) (hc0 : l0.length ≤ c0) (A1 : Option Addr) (c1 : Nat) (hr1 : Kd.C k40 w A1 l1.length l1) (hc1 : l1.length ≤ c1) (q0 : l0.length ≤ maxLen ∧ ∀ x0_ ∈ l0, Q40 x0_) (y0 : l0.length * 48 ≤ 140737488351232) (q1 : l1.length ≤ maxLen ∧ ∀ x0_ ∈ l1, Q40 x0_) (y1 : l1.length * 48 ≤ 140737488351232) (q2 : (Lit.int .i64 a2).wf = true) :
    Calls Try.prog 3 #[.slice A0 l0.length c0, .slice A1 l1.length c1, .int .i64 a2] w fun e w' => e = .returned (.bool true) ∧ Below w.heap.size w w' := by
  obtain ⟨k, h⟩ := P l0 l1 a2 q0 y0 q1 y1 q2
  refine (ebbtidelaw10_ChainTells.calls k A0 c0 l0 A1 c1 l1 a2 true w hr0 hc0 hr1 hc1 h).mono ?_
  rintro e w' ⟨rfl, hd⟩
  exact ⟨rfl, hd⟩

/-! ### ebbtideref10_Put: function 20 -/
def ebbtideref10_Put.f (k : Nat) (l0 : List (S40)) (l1 : List (S40)) : Option ((List (S40)) × Int) := (some (([] : List (S40)) : List (S40))).bind fun y320 => (if y320.length + l0.length < 2932031007402 then ((some (y320 ++ l0 : List (S40))).bind fun y323 => (if y323.length + l1.length < 2932031007402 then ((some (y323 ++ l1 : List (S40))).bind fun y326 => ((ebbtideref10_Right.f k y326).bind fun t329 => (if t329 = true then (some (y326, 0)) else (some (([] : List (S40)), 9))))) else (none))) else (none))
theorem ebbtideref10_Put.mono : ∀ a0 a1 k, LeO (ebbtideref10_Put.f k a0 a1) (ebbtideref10_Put.f (k + 1) a0 a1) := by
  intro a0 a1 k
  unfold ebbtideref10_Put.f
  repeat' first
      | (with_reducible exact ebbtideref10_Right.mono _ _)
      | (with_reducible exact LeO.refl _)
      | (with_reducible exact LeO.none _)
      | (with_reducible refine LeO.ite ?_ ?_)
      | (with_reducible refine LeO.bind ?_ (fun _ => ?_))
      | exact ebbtideref10_Right.mono _ _
      | exact LeO.none _
      | refine LeO.ite ?_ ?_
      | refine LeO.bind ?_ (fun _ => ?_)
set_option maxHeartbeats 8000000 in
set_option maxRecDepth 100000 in
theorem ebbtideref10_Put.calls (k : Nat) (A0 : Option Addr) (c0 : Nat) (l0 : List (S40)) (A1 : Option Addr) (c1 : Nat) (l1 : List (S40)) (r1 : List (S40)) (r2 : Int) (w : World) (hr0 : Kd.C k40 w A0 l0.length l0) (hc0 : l0.length ≤ c0) (hr1 : Kd.C k40 w A1 l1.length l1) (hc1 : l1.length ≤ c1) (h : ebbtideref10_Put.f k l0 l1 = some (r1, r2)) :
    Calls Try.prog 20 #[.slice A0 l0.length c0, .slice A1 l1.length c1] w fun e w' => ∃ v0_ : Value, e = .returned (.tuple #[v0_, .int .i64 r2]) ∧ Kd.R k40 40 w' w.heap.size (fun _ => True) v0_ r1 ∧ Below w.heap.size w w' := by
  have HR0 := Aside0.mk hr0
  have HC0 := Aside0.mk hc0
  clear hr0 hc0
  have HR1 := Aside0.mk hr1
  have HC1 := Aside0.mk hc1
  clear hr1 hc1
  have HB := Aside0.mk (Below.refl w.heap.size w)
  have H : ((some (([] : List (S40)) : List (S40))).bind fun y320 => (if y320.length + l0.length < 2932031007402 then ((some (y320 ++ l0 : List (S40))).bind fun y323 => (if y323.length + l1.length < 2932031007402 then ((some (y323 ++ l1 : List (S40))).bind fun y326 => ((ebbtideref10_Right.f k y326).bind fun t329 => (if t329 = true then (some (y326, 0)) else (some (([] : List (S40)), 9))))) else (none))) else (none))) = some (r1, r2) := h
  clear h
  obtain ⟨y320, hy320⟩ : ∃ y_ : List (S40), y_ = (([] : List (S40))) := ⟨_, rfl⟩
  replace H : (if y320.length + l0.length < 2932031007402 then ((some (y320 ++ l0 : List (S40))).bind fun y323 => (if y323.length + l1.length < 2932031007402 then ((some (y323 ++ l1 : List (S40))).bind fun y326 => ((ebbtideref10_Right.f k y326).bind fun t329 => (if t329 = true then (some (y326, 0)) else (some (([] : List (S40)), 9))))) else (none))) else (none)) = some (r1, r2) := by first | (rw [hy320]; with_reducible exact H) | (have H2_ := (Option.bind_some _ _).symm.trans H; rw [hy320]; with_reducible exact H2_) | (have H2_ := (Option.bind_some _ _).symm.trans H; with_reducible exact H2_) | with_reducible exact H | (rw [hy320]; exact H) | exact H
  have Ny320 := Aside0.mk hy320
  clear hy320
  by_cases c3 : y320.length + l0.length < 2932031007402
  · rw [if_pos c3] at H
    have LMc3 := Aside0.mk c3
    clear c3
    obtain ⟨y323, hy323⟩ : ∃ y_ : List (S40), y_ = (y320 ++ l0) := ⟨_, rfl⟩
    replace H : (if y323.length + l1.length < 2932031007402 then ((some (y323 ++ l1 : List (S40))).bind fun y326 => ((ebbtideref10_Right.f k y326).bind fun t329 => (if t329 = true then (some (y326, 0)) else (some (([] : List (S40)), 9))))) else (none)) = some (r1, r2) := by first | (rw [hy323]; with_reducible exact H) | (have H2_ := (Option.bind_some _ _).symm.trans H; rw [hy323]; with_reducible exact H2_) | (have H2_ := (Option.bind_some _ _).symm.trans H; with_reducible exact H2_) | with_reducible exact H | (rw [hy323]; exact H) | exact H
    have Ny323 := Aside0.mk hy323
    clear hy323
    by_cases c4 : y323.length + l1.length < 2932031007402
    · rw [if_pos c4] at H
      have LMc4 := Aside0.mk c4
      clear c4
      obtain ⟨y326, hy326⟩ : ∃ y_ : List (S40), y_ = (y323 ++ l1) := ⟨_, rfl⟩
      replace H : ((ebbtideref10_Right.f k y326).bind fun t329 => (if t329 = true then (some (y326, 0)) else (some (([] : List (S40)), 9)))) = some (r1, r2) := by first | (rw [hy326]; with_reducible exact H) | (have H2_ := (Option.bind_some _ _).symm.trans H; rw [hy326]; with_reducible exact H2_) | (have H2_ := (Option.bind_some _ _).symm.trans H; with_reducible exact H2_) | with_reducible exact H | (rw [hy326]; exact H) | exact H
      have Ny326 := Aside0.mk hy326
      clear hy326
      replace H := Option.bind_eq_some_iff.mp H
      obtain ⟨t329, A50, H⟩ := H
      replace H : (if t329 = true then (some (y326, 0)) else (some (([] : List (S40)), 9))) = some (r1, r2) := H
      have A5 := Aside0.mk A50
      clear A50
      by_cases c6 : t329 = true
      · subst c6
        have H1 : (some (y326, 0)) = some (r1, r2) := by rw [if_pos rfl] at H; exact H
        clear H
        have H := H1
        clear H1
        simp only [Option.some.injEq, Prod.mk.injEq] at H
        obtain ⟨rfl, rfl⟩ := H
        go_enter Try.func20, Try.ntmps20
        go_wp2_with (first | ((with_reducible refine gate_dst (N := 7) rfl ?_); refine Kd.R_lit k40 _ 40 ?hg (N := 7) ?hd (xs := ([] : List (S40))) (inner := []) (ok := fun _ => True) (okp := fun _ => True) ?hr ?hp (fun _ hk => hk) trivial (Below.refl _ _) (Nat.le_refl _) (by simp) ?_; (case hd => rfl); (case hg => rfl); (case hr => first | (go_simp; done) | (go_simp; rfl)); (case hp => exact (Reps.none _ _)); intro v321 w7 ho8 hb hg_ hnew_; clear hg_ hnew_; (first | rw [← Ny320.out] at ho8 | (simp only [Int.reduceToNat] at ho8; rw [← Ny320.out] at ho8)); have n0_ := Aside0.mk (Kd.R_lower ho8 (below_size (by repeat (first | (with_reducible first | exact HB.out | apply below_alloc | apply pw_below_drewN | apply below_drew1) | exact HB.out)))); have n1_ := Aside0.mk (below_step (by repeat (first | (with_reducible first | exact HB.out | apply below_alloc | apply pw_below_drewN | apply below_drew1) | exact HB.out)) hb); clear HB; have HO322 := n0_; have HB := n1_; clear n0_ n1_; clear hb ho8) | ((with_reducible refine gate_builtin (b := .append) (xs := #[.tmp 7, .tmp 8]) rfl ?_); at_builtin; refine Kd.R_append_rows k40 (w0 := w) w.heap.size rfl (.tmp 7) (.tmp 8) 22 40 (.agg #[(.int .i64 0), (.int .i64 0), (.int .i64 0), (.bool false), (.int .i64 0), (.int .i64 0)]) 48 rfl Try.underlying22 info40 rfl (by decide) (by omega) v321 y320 l0 _ _ _ (fun _ => True) (fun _ => False) rfl rfl ?aO ?aR (fun _ _ h => h) (fun _ h => h.elim) ?aF ?aB ?aS ?aL ?_; (case aR => repeat (first | exact (Kd.C_below HR0.out HB.out) | (with_reducible refine Kd.C_alloc ?_ _) | (with_reducible refine Kd.C_drewN ?_ _) | (with_reducible refine Kd.C_drew ?_))); (case aB => exact (by repeat (first | (with_reducible first | exact HB.out | apply below_alloc | apply pw_below_drewN | apply below_drew1) | exact HB.out))); (case aF => exact (fun _ _ => trivial)); (case aO => exact (by (with_reducible repeat (first | apply Kd.R_alloc | apply Kd.R_drewN | apply Kd.R_drew)); exact HO322.out)); (case aS => exact (below_size (by repeat (first | (with_reducible first | exact HB.out | apply below_alloc | apply pw_below_drewN | apply below_drew1) | exact HB.out)))); (case aL => have := LMc3.out; omega); intro v324 w9 ho hb hg hat; rw [← Ny323.out] at ho; have n0_ := Aside0.mk (hb); have n1_ := Aside0.mk (ho); clear HB; clear HO322; have HB := n0_; have HO325 := n1_; clear n0_ n1_; clear ho hb hg hat) | ((with_reducible refine gate_builtin (b := .append) (xs := #[.tmp 9, .tmp 10]) rfl ?_); at_builtin; refine Kd.R_append_rows k40 (w0 := w) w.heap.size rfl (.tmp 9) (.tmp 10) 22 40 (.agg #[(.int .i64 0), (.int .i64 0), (.int .i64 0), (.bool false), (.int .i64 0), (.int .i64 0)]) 48 rfl Try.underlying22 info40 rfl (by decide) (by omega) v324 y323 l1 _ _ _ (fun _ => True) (fun _ => False) rfl rfl ?aO ?aR (fun _ _ h => h) (fun _ h => h.elim) ?aF ?aB ?aS ?aL ?_; (case aR => repeat (first | exact (Kd.C_below HR1.out HB.out) | (with_reducible refine Kd.C_alloc ?_ _) | (with_reducible refine Kd.C_drewN ?_ _) | (with_reducible refine Kd.C_drew ?_))); (case aB => exact (by repeat (first | (with_reducible first | exact HB.out | apply below_alloc | apply pw_below_drewN | apply below_drew1) | exact HB.out))); (case aF => exact (fun _ _ => trivial)); (case aO => exact (by (with_reducible repeat (first | apply Kd.R_alloc | apply Kd.R_drewN | apply Kd.R_drew)); exact HO325.out)); (case aS => exact (below_size (by repeat (first | (with_reducible first | exact HB.out | apply below_alloc | apply pw_below_drewN | apply below_drew1) | exact HB.out)))); (case aL => have := LMc4.out; omega); intro v327 w10 ho hb hg hat; rw [← Ny326.out] at ho; have n0_ := Aside0.mk (hb); have n1_ := Aside0.mk (ho); clear HB; clear HO325; have HB := n0_; have HO328 := n1_; clear n0_ n1_; clear ho hb hg hat; obtain ⟨Ao11, co11, eo11⟩ := Kd.R_slice HO328.out; subst eo11) | ((with_reducible refine gate_callee (f := 10) rfl ?_); refine goesL_ (some 13) rfl rfl Try.func10 (by kernel_rfl) rfl #[.slice Ao11 y326.length co11] rfl (by (try simp only [List.map_toArray, List.map_cons, List.map_nil]); first | done | rfl | (simp only [List.length_drop, List.length_take]; rfl)) ?_; (with_reducible refine (ebbtideref10_Right.calls k _ _ y326 true _ ?side1 ?side2 A5.out).mono ?_); (case side1 => repeat (first | exact (Kd.R_reads' HO328.out).2.2 | (with_reducible refine Kd.C_alloc ?_ _) | (with_reducible refine Kd.C_drewN ?_ _) | (with_reducible refine Kd.C_drew ?_))); (case side2 => exact (Kd.R_reads' HO328.out).2.1); rintro e w' ⟨rfl, ⟨nd, rfl⟩⟩; refine ⟨_, rfl, ?_⟩))
        go_ret2
        exact ⟨_, by first | rfl | (simp [errW_none, errW_some] <;> rfl) | (simp [*, errW_none, errW_some] <;> rfl), by (with_reducible repeat (first | apply Kd.R_alloc | apply Kd.R_drewN | apply Kd.R_drew)); exact HO328.out, by repeat (first | (with_reducible first | exact HB.out | apply below_alloc | apply pw_below_drewN | apply below_drew1) | exact HB.out)⟩
      · replace c6 := Bool.eq_false_iff.mpr c6
        subst c6
        have H1 : (some (([] : List (S40)), 9)) = some (r1, r2) := by rw [if_neg (show ¬ (false = true) by decide)] at H; exact H
        clear H
        have H := H1
        clear H1
        simp only [Option.some.injEq, Prod.mk.injEq] at H
        obtain ⟨rfl, rfl⟩ := H
        go_enter Try.func20, Try.ntmps20
        go_wp2_with (first | ((with_reducible refine gate_dst (N := 7) rfl ?_); refine Kd.R_lit k40 _ 40 ?hg (N := 7) ?hd (xs := ([] : List (S40))) (inner := []) (ok := fun _ => True) (okp := fun _ => True) ?hr ?hp (fun _ hk => hk) trivial (Below.refl _ _) (Nat.le_refl _) (by simp) ?_; (case hd => rfl); (case hg => rfl); (case hr => first | (go_simp; done) | (go_simp; rfl)); (case hp => exact (Reps.none _ _)); intro v321 w12 ho13 hb hg_ hnew_; clear hg_ hnew_; (first | rw [← Ny320.out] at ho13 | (simp only [Int.reduceToNat] at ho13; rw [← Ny320.out] at ho13)); have n0_ := Aside0.mk (Kd.R_lower ho13 (below_size (by repeat (first | (with_reducible first | exact HB.out | apply below_alloc | apply pw_below_drewN | apply below_drew1) | exact HB.out)))); have n1_ := Aside0.mk (below_step (by repeat (first | (with_reducible first | exact HB.out | apply below_alloc | apply pw_below_drewN | apply below_drew1) | exact HB.out)) hb); clear HB; have HO322 := n0_; have HB := n1_; clear n0_ n1_; clear hb ho13) | ((with_reducible refine gate_builtin (b := .append) (xs := #[.tmp 7, .tmp 8]) rfl ?_); at_builtin; refine Kd.R_append_rows k40 (w0 := w) w.heap.size rfl (.tmp 7) (.tmp 8) 22 40 (.agg #[(.int .i64 0), (.int .i64 0), (.int .i64 0), (.bool false), (.int .i64 0), (.int .i64 0)]) 48 rfl Try.underlying22 info40 rfl (by decide) (by omega) v321 y320 l0 _ _ _ (fun _ => True) (fun _ => False) rfl rfl ?aO ?aR (fun _ _ h => h) (fun _ h => h.elim) ?aF ?aB ?aS ?aL ?_; (case aR => repeat (first | exact (Kd.C_below HR0.out HB.out) | (with_reducible refine Kd.C_alloc ?_ _) | (with_reducible refine Kd.C_drewN ?_ _) | (with_reducible refine Kd.C_drew ?_))); (case aB => exact (by repeat (first | (with_reducible first | exact HB.out | apply below_alloc | apply pw_below_drewN | apply below_drew1) | exact HB.out))); (case aF => exact (fun _ _ => trivial)); (case aO => exact (by (with_reducible repeat (first | apply Kd.R_alloc | apply Kd.R_drewN | apply Kd.R_drew)); exact HO322.out)); (case aS => exact (below_size (by repeat (first | (with_reducible first | exact HB.out | apply below_alloc | apply pw_below_drewN | apply below_drew1) | exact HB.out)))); (case aL => have := LMc3.out; omega); intro v324 w14 ho hb hg hat; rw [← Ny323.out] at ho; have n0_ := Aside0.mk (hb); have n1_ := Aside0.mk (ho); clear HB; clear HO322; have HB := n0_; have HO325 := n1_; clear n0_ n1_; clear ho hb hg hat) | ((with_reducible refine gate_builtin (b := .append) (xs := #[.tmp 9, .tmp 10]) rfl ?_); at_builtin; refine Kd.R_append_rows k40 (w0 := w) w.heap.size rfl (.tmp 9) (.tmp 10) 22 40 (.agg #[(.int .i64 0), (.int .i64 0), (.int .i64 0), (.bool false), (.int .i64 0), (.int .i64 0)]) 48 rfl Try.underlying22 info40 rfl (by decide) (by omega) v324 y323 l1 _ _ _ (fun _ => True) (fun _ => False) rfl rfl ?aO ?aR (fun _ _ h => h) (fun _ h => h.elim) ?aF ?aB ?aS ?aL ?_; (case aR => repeat (first | exact (Kd.C_below HR1.out HB.out) | (with_reducible refine Kd.C_alloc ?_ _) | (with_reducible refine Kd.C_drewN ?_ _) | (with_reducible refine Kd.C_drew ?_))); (case aB => exact (by repeat (first | (with_reducible first | exact HB.out | apply below_alloc | apply pw_below_drewN | apply below_drew1) | exact HB.out))); (case aF => exact (fun _ _ => trivial)); (case aO => exact (by (with_reducible repeat (first | apply Kd.R_alloc | apply Kd.R_drewN | apply Kd.R_drew)); exact HO325.out)); (case aS => exact (below_size (by repeat (first | (with_reducible first | exact HB.out | apply below_alloc | apply pw_below_drewN | apply below_drew1) | exact HB.out)))); (case aL => have := LMc4.out; omega); intro v327 w15 ho hb hg hat; rw [← Ny326.out] at ho; have n0_ := Aside0.mk (hb); have n1_ := Aside0.mk (ho); clear HB; clear HO325; have HB := n0_; have HO328 := n1_; clear n0_ n1_; clear ho hb hg hat; obtain ⟨Ao16, co16, eo16⟩ := Kd.R_slice HO328.out; subst eo16) | ((with_reducible refine gate_callee (f := 10) rfl ?_); refine goesL_ (some 13) rfl rfl Try.func10 (by kernel_rfl) rfl #[.slice Ao16 y326.length co16] rfl (by (try simp only [List.map_toArray, List.map_cons, List.map_nil]); first | done | rfl | (simp only [List.length_drop, List.length_take]; rfl)) ?_; (with_reducible refine (ebbtideref10_Right.calls k _ _ y326 false _ ?side1 ?side2 A5.out).mono ?_); (case side1 => repeat (first | exact (Kd.R_reads' HO328.out).2.2 | (with_reducible refine Kd.C_alloc ?_ _) | (with_reducible refine Kd.C_drewN ?_ _) | (with_reducible refine Kd.C_drew ?_))); (case side2 => exact (Kd.R_reads' HO328.out).2.1); rintro e w' ⟨rfl, ⟨nd, rfl⟩⟩; refine ⟨_, rfl, ?_⟩))
        go_ret2
        exact ⟨_, by first | rfl | (simp [errW_none, errW_some] <;> rfl) | (simp [*, errW_none, errW_some] <;> rfl), by first | exact Kd.R_nil _ _ _ _ _ | exact Kd.N_nil _ _ _ _ _ | exact Kd.V_nil _ _ _ _ _ | exact Kd.Q_nil _ _ _ _ _ | exact Kd.S_nil _ _ _ _ _, by repeat (first | (with_reducible first | exact HB.out | apply below_alloc | apply pw_below_drewN | apply below_drew1) | exact HB.out)⟩
    · rw [if_neg c4] at H
      exact absurd H (by simp)
  · rw [if_neg c3] at H
    exact absurd H (by simp)

end Go.Proofs.Ythphlphkmfgkdaa.X
