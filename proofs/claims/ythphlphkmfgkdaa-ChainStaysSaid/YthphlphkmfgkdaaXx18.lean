/- Printed by a program of this session's own: what functions of the program compute, and that the machine computes it. -/
import Derived.Test.YthphlphkmfgkdaaXx0
import Derived.Test.YthphlphkmfgkdaaXx1
import Derived.Test.YthphlphkmfgkdaaXx3
import Derived.Test.YthphlphkmfgkdaaXx4
import Derived.Test.YthphlphkmfgkdaaXx12
import Derived.Test.YthphlphkmfgkdaaXx13
import Derived.Test.YthphlphkmfgkdaaXx15
namespace Go.Proofs.Ythphlphkmfgkdaa.X
open Go.RowKit Go.Proofs.YthphlphkmfgkdaaW.PrintWords Go.Proofs.YthphlphkmfgkdaaW.PrintLast Go.Proofs.YthphlphkmfgkdaaW.PrintMore
attribute [local go_sem] max2_int min2_int max_two min_two max_three min_three max_four min_four   -- for this text's walks alone
set_option linter.unusedVariables false
set_option linter.unusedSimpArgs false

attribute [local go_sem high] eqA28
/-! ### ebbtidelaw10_ChainStays: function 5 -/
mutual
def ebbtidelaw10_ChainStays.j0 : Nat → List (S40) → Int → Int → Bool → Option (Bool)
  | 0, _, _, _, _ => none
  | k + 1, x0, x1, x2, x19 => if x19 = true then (some true) else ((chain_Prune.f k x0 x1).bind fun t386 => (ebbtidelaw10_ChainStays.l0 k x0 x1 x2 t386 0 0))
def ebbtidelaw10_ChainStays.l0 : Nat → List (S40) → Int → Int → List (S40) → Int → Int → Option (Bool)
  | 0, _, _, _, _, _, _ => none
  | k + 1, x0, x1, x2, x7, x8, x9 => if x9 < (x7.length : Int) then (if 0 ≤ x9 then (if ((rd_T40 x7 x9).f0) ≤ x1 then (ebbtidelaw10_ChainStays.l0 k x0 x1 x2 x7 (wrap64 (x8 + 1)) (wrap64 (x9 + 1))) else (ebbtidelaw10_ChainStays.l0 k x0 x1 x2 x7 x8 (wrap64 (x9 + 1)))) else (none)) else (if x8 ≤ 1 then (if (x7.length : Int) ≤ (x0.length : Int) then ((ebbtideref10_Right.f k x7).bind fun t390 => (if t390 = true then (if x2 < x1 then ((chain_Prune.f k x7 x1).bind fun t391 => ((ebbtideref10_Same.f k t391 x7).bind fun t394 => (some t394))) else ((chain_At.f k x7 x2).bind fun bt395 => ((chain_At.f k x0 x2).bind fun bt400 => (if (bt395.1 == bt400.1 && ((bt395.2.1 == bt400.2.1 && (bt395.2.2.1 == bt400.2.2.1)) && (bt395.2.2.2.1 == bt400.2.2.2.1 && (bt395.2.2.2.2 == bt400.2.2.2.2)))) = true then ((chain_Prune.f k x7 x1).bind fun t405 => ((ebbtideref10_Same.f k t405 x7).bind fun t408 => (some t408))) else (none))))) else (none))) else (none)) else (none))
end
def ebbtidelaw10_ChainStays.f (k : Nat) (l0 : List (S40)) (a1 : Int) (a2 : Int) : Option (Bool) := (ebbtidelaw10_alive.f k).bind fun t384 => (if t384 = true then (if (l0.length : Int) > 200 then (ebbtidelaw10_ChainStays.j0 k l0 a1 a2 true) else ((ebbtideref10_Right.f k l0).bind fun t385 => (ebbtidelaw10_ChainStays.j0 k l0 a1 a2 (!t385)))) else (none))
theorem ebbtidelaw10_ChainStays.mono_l : ∀ k, (∀ y0 y1 y2 y3, LeO (ebbtidelaw10_ChainStays.j0 k y0 y1 y2 y3) (ebbtidelaw10_ChainStays.j0 (k + 1) y0 y1 y2 y3)) ∧ (∀ y0 y1 y2 y3 y4 y5, LeO (ebbtidelaw10_ChainStays.l0 k y0 y1 y2 y3 y4 y5) (ebbtidelaw10_ChainStays.l0 (k + 1) y0 y1 y2 y3 y4 y5))
  | 0 => ⟨fun _ _ _ _ r h => by simp [ebbtidelaw10_ChainStays.j0] at h, fun _ _ _ _ _ _ r h => by simp [ebbtidelaw10_ChainStays.l0] at h⟩
  | k + 1 => by
    obtain ⟨ih0, ih1⟩ := ebbtidelaw10_ChainStays.mono_l k
    refine ⟨?_, ?_⟩
    · intro y0 y1 y2 y3
      unfold ebbtidelaw10_ChainStays.j0
      repeat' first
      | (with_reducible exact ih0 _ _ _ _)
      | (with_reducible exact ih1 _ _ _ _ _ _)
      | (with_reducible exact chain_At.mono _ _ _)
      | (with_reducible exact chain_Prune.mono _ _ _)
      | (with_reducible exact ebbtidelaw10_alive.mono _)
      | (with_reducible exact ebbtideref10_Right.mono _ _)
      | (with_reducible exact ebbtideref10_Same.mono _ _ _)
      | (with_reducible exact LeO.refl _)
      | (with_reducible exact LeO.none _)
      | (with_reducible refine LeO.ite ?_ ?_)
      | (with_reducible refine LeO.bind ?_ (fun _ => ?_))
      | exact ih0 _ _ _ _
      | exact ih1 _ _ _ _ _ _
      | exact chain_At.mono _ _ _
      | exact chain_Prune.mono _ _ _
      | exact ebbtidelaw10_alive.mono _
      | exact ebbtideref10_Right.mono _ _
      | exact ebbtideref10_Same.mono _ _ _
      | exact LeO.none _
      | refine LeO.ite ?_ ?_
      | refine LeO.bind ?_ (fun _ => ?_)
    · intro y0 y1 y2 y3 y4 y5
      unfold ebbtidelaw10_ChainStays.l0
      repeat' first
      | (with_reducible exact ih0 _ _ _ _)
      | (with_reducible exact ih1 _ _ _ _ _ _)
      | (with_reducible exact chain_At.mono _ _ _)
      | (with_reducible exact chain_Prune.mono _ _ _)
      | (with_reducible exact ebbtidelaw10_alive.mono _)
      | (with_reducible exact ebbtideref10_Right.mono _ _)
      | (with_reducible exact ebbtideref10_Same.mono _ _ _)
      | (with_reducible exact LeO.refl _)
      | (with_reducible exact LeO.none _)
      | (with_reducible refine LeO.ite ?_ ?_)
      | (with_reducible refine LeO.bind ?_ (fun _ => ?_))
      | exact ih0 _ _ _ _
      | exact ih1 _ _ _ _ _ _
      | exact chain_At.mono _ _ _
      | exact chain_Prune.mono _ _ _
      | exact ebbtidelaw10_alive.mono _
      | exact ebbtideref10_Right.mono _ _
      | exact ebbtideref10_Same.mono _ _ _
      | exact LeO.none _
      | refine LeO.ite ?_ ?_
      | refine LeO.bind ?_ (fun _ => ?_)
theorem ebbtidelaw10_ChainStays.mono : ∀ a0 a1 a2 k, LeO (ebbtidelaw10_ChainStays.f k a0 a1 a2) (ebbtidelaw10_ChainStays.f (k + 1) a0 a1 a2) := by
  intro a0 a1 a2 k
  obtain ⟨ih0, ih1⟩ := ebbtidelaw10_ChainStays.mono_l k
  unfold ebbtidelaw10_ChainStays.f
  repeat' first
      | (with_reducible exact ih0 _ _ _ _)
      | (with_reducible exact ih1 _ _ _ _ _ _)
      | (with_reducible exact chain_At.mono _ _ _)
      | (with_reducible exact chain_Prune.mono _ _ _)
      | (with_reducible exact ebbtidelaw10_alive.mono _)
      | (with_reducible exact ebbtideref10_Right.mono _ _)
      | (with_reducible exact ebbtideref10_Same.mono _ _ _)
      | (with_reducible exact LeO.refl _)
      | (with_reducible exact LeO.none _)
      | (with_reducible refine LeO.ite ?_ ?_)
      | (with_reducible refine LeO.bind ?_ (fun _ => ?_))
      | exact ih0 _ _ _ _
      | exact ih1 _ _ _ _ _ _
      | exact chain_At.mono _ _ _
      | exact chain_Prune.mono _ _ _
      | exact ebbtidelaw10_alive.mono _
      | exact ebbtideref10_Right.mono _ _
      | exact ebbtideref10_Same.mono _ _ _
      | exact LeO.none _
      | refine LeO.ite ?_ ?_
      | refine LeO.bind ?_ (fun _ => ?_)
set_option maxHeartbeats 8000000 in
set_option maxRecDepth 100000 in
theorem ebbtidelaw10_ChainStays.calls (k : Nat) (A0 : Option Addr) (c0 : Nat) (l0 : List (S40)) (a1 : Int) (a2 : Int) (r : Bool) (w : World) (hr0 : Kd.C k40 w A0 l0.length l0) (hc0 : l0.length ≤ c0) (h : ebbtidelaw10_ChainStays.f k l0 a1 a2 = some r) :
    Calls Try.prog 5 #[.slice A0 l0.length c0, .int .i64 a1, .int .i64 a2] w fun e w' => e = .returned (.bool r) ∧ Below w.heap.size w w' := by
  have HR0 := Aside0.mk hr0
  have HC0 := Aside0.mk hc0
  clear hr0 hc0
  have HB := Aside0.mk (Below.refl w.heap.size w)
  have H : ((ebbtidelaw10_alive.f k).bind fun t384 => (if t384 = true then (if (l0.length : Int) > 200 then (ebbtidelaw10_ChainStays.j0 k l0 a1 a2 true) else ((ebbtideref10_Right.f k l0).bind fun t385 => (ebbtidelaw10_ChainStays.j0 k l0 a1 a2 (!t385)))) else (none))) = some r := h
  clear h
  replace H := Option.bind_eq_some_iff.mp H
  obtain ⟨t384, A40, H⟩ := H
  replace H : (if t384 = true then (if (l0.length : Int) > 200 then (ebbtidelaw10_ChainStays.j0 k l0 a1 a2 true) else ((ebbtideref10_Right.f k l0).bind fun t385 => (ebbtidelaw10_ChainStays.j0 k l0 a1 a2 (!t385)))) else (none)) = some r := H
  have A4 := Aside0.mk A40
  clear A40
  by_cases c5 : t384 = true
  · subst c5
    have H1 : (if (l0.length : Int) > 200 then (ebbtidelaw10_ChainStays.j0 k l0 a1 a2 true) else ((ebbtideref10_Right.f k l0).bind fun t385 => (ebbtidelaw10_ChainStays.j0 k l0 a1 a2 (!t385)))) = some r := by rw [if_pos rfl] at H; exact H
    clear H
    have H := H1
    clear H1
    have HC6 := Aside0.mk H
    clear H
    go_enter Try.func5, Try.ntmps5
    go_upto_region 3 with (first | ((with_reducible refine gate_callee (f := 8) rfl ?_); refine goesL_ (some 10) rfl rfl Try.func8 (by kernel_rfl) rfl #[] rfl (by (try simp only [List.map_toArray, List.map_cons, List.map_nil]); first | done | rfl | (simp only [List.length_drop, List.length_take]; rfl)) ?_; (with_reducible refine (ebbtidelaw10_alive.calls k  true _ A4.out).mono ?_); rintro e w7 ⟨rfl, hb⟩; refine ⟨_, rfl, ?_⟩; have n0_ := Aside0.mk (below_step (by repeat (first | (with_reducible first | exact HB.out | apply below_alloc | apply pw_below_drewN | apply below_drew1) | exact HB.out)) hb); clear HB; have HB := n0_; clear n0_; (try clear hb); (try clear hb2); (try clear hk); (try clear hi)))
    (try simp only [Act.put, List.setIfInBounds_toArray, List.set_cons_zero, List.set_cons_succ])
    go_cut [19] (fun v19 wc => ∃ (kq : Nat) (x19_5 : Bool), v19 = .bool x19_5 ∧ Aside0 (ebbtidelaw10_ChainStays.j0 kq l0 a1 a2 x19_5 = some r) ∧ Aside0 (kq ≤ k) ∧ Aside0 (Below w.heap.size w wc))
    case first =>
      have H := HC6.out
      clear HC6
      by_cases c8 : (l0.length : Int) > 200
      · rw [if_pos c8] at H
        have c8b0 : decide (200 < (l0.length : Int)) = true := decide_eq_true c8
        have c8b1 : decide (200 < l0.length) = true := decide_eq_true (by omega)
        clear c8
        (first | rw [c8b0] | (simp only [i64_w, i32_w]; rw [c8b0]) | skip)
        have H' := Aside0.mk H
        clear H
        go_wp2
        go_meet
        case rel => exact ⟨_, (true), (by first | rfl | (simp; done) | (simp [*]; done)), H', ⟨by first | omega | exact Nat.le_refl _⟩, ⟨by repeat (first | (with_reducible first | exact HB.out | apply below_alloc | apply pw_below_drewN | apply below_drew1) | exact HB.out)⟩⟩
      · rw [if_neg c8] at H
        have c8b0 : decide (200 < (l0.length : Int)) = false := decide_eq_false c8
        have c8b1 : decide (200 < l0.length) = false := decide_eq_false (by omega)
        clear c8
        (first | rw [c8b0] | (simp only [i64_w, i32_w]; rw [c8b0]) | skip)
        replace H := Option.bind_eq_some_iff.mp H
        obtain ⟨t385, A90, H⟩ := H
        replace H : (ebbtidelaw10_ChainStays.j0 k l0 a1 a2 (!t385)) = some r := H
        have A9 := Aside0.mk A90
        clear A90
        have H' := Aside0.mk H
        clear H
        go_wp2_with (first | (go_at_call 10; (with_reducible refine (ebbtideref10_Right.calls k _ _ l0 t385 _ ?side1 ?side2 A9.out).mono ?_); (case side1 => repeat (first | exact (Kd.C_below HR0.out HB.out) | (with_reducible refine Kd.C_alloc ?_ _) | (with_reducible refine Kd.C_drewN ?_ _) | (with_reducible refine Kd.C_drew ?_))); (case side2 => exact HC0.out); rintro e w' ⟨rfl, ⟨nd, rfl⟩⟩))
        go_meet
        case rel => exact ⟨_, (!t385), (by first | rfl | (simp; done) | (simp [*]; done)), H', ⟨by first | omega | exact Nat.le_refl _⟩, ⟨by repeat (first | (with_reducible first | exact HB.out | apply below_alloc | apply pw_below_drewN | apply below_drew1) | exact HB.out)⟩⟩
    case rest =>
      clear HC6
      try clear p2
      try clear c5
      try clear c8
      try clear c8b0
      try clear c8b1
      obtain ⟨kq, x19_5, rfl, HA, HJ5, HB⟩ := hcut
      cases kq with
      | zero => exact absurd HA.out (by simp [ebbtidelaw10_ChainStays.j0])
      | succ kj5 =>
        have H := HA.out
        clear HA
        simp only [ebbtidelaw10_ChainStays.j0] at H
        by_cases c10 : x19_5 = true
        · subst c10
          have H1 : (some true) = some r := by rw [if_pos rfl] at H; exact H
          clear H
          have H := H1
          clear H1
          obtain rfl := Option.some.inj H
          go_wp2
          go_ret
          exact ⟨by first | rfl | (simp [errW_none, errW_some] <;> rfl) | (simp [*, errW_none, errW_some] <;> rfl), by repeat (first | (with_reducible first | exact HB.out | apply below_alloc | apply pw_below_drewN | apply below_drew1) | exact HB.out)⟩
        · replace c10 := Bool.eq_false_iff.mpr c10
          subst c10
          have H1 : ((chain_Prune.f kj5 l0 a1).bind fun t386 => (ebbtidelaw10_ChainStays.l0 kj5 l0 a1 a2 t386 0 0)) = some r := by rw [if_neg (show ¬ (false = true) by decide)] at H; exact H
          clear H
          have H := H1
          clear H1
          replace H := Option.bind_eq_some_iff.mp H
          obtain ⟨t386, A110, H⟩ := H
          replace H : (ebbtidelaw10_ChainStays.l0 kj5 l0 a1 a2 t386 0 0) = some r := H
          have A11 := Aside0.mk A110
          clear A110
          have H' := Aside0.mk H
          clear H
          go_wp2_with (first | ((with_reducible refine gate_callee (f := 16) rfl ?_); refine goesL_ (some 22) rfl rfl Try.func16 (by kernel_rfl) rfl #[.slice A0 l0.length c0, .int .i64 a1] rfl (by (try simp only [List.map_toArray, List.map_cons, List.map_nil]); first | done | rfl | (simp only [List.length_drop, List.length_take]; rfl)) ?_; (with_reducible refine (chain_Prune.calls kj5 _ _ l0 a1 t386 _ ?side1 ?side2 A11.out).mono ?_); (case side1 => repeat (first | exact (Kd.C_below HR0.out HB.out) | (with_reducible refine Kd.C_alloc ?_ _) | (with_reducible refine Kd.C_drewN ?_ _) | (with_reducible refine Kd.C_drew ?_))); (case side2 => exact HC0.out); rintro e w12 ⟨v387, rfl, ho0, hb⟩; refine ⟨_, rfl, ?_⟩; have n0_ := Aside0.mk (Kd.R_lower ho0 (below_size (by repeat (first | (with_reducible first | exact HB.out | apply below_alloc | apply pw_below_drewN | apply below_drew1) | exact HB.out)))); have n1_ := Aside0.mk (below_step (by repeat (first | (with_reducible first | exact HB.out | apply below_alloc | apply pw_below_drewN | apply below_drew1) | exact HB.out)) hb); clear HB; have HO388 := n0_; have HB := n1_; clear n0_ n1_; (try clear hb); (try clear hb2); (try clear hk); (try clear hi); (try clear ho0)))
          go_loopg [8, 9] kj5 (fun kq v8 v9 w' => ∃ (x8_2 : Int) (x9_2 : Int), v8 = .int .i64 x8_2 ∧ v9 = .int .i64 x9_2 ∧ Aside0 (ebbtidelaw10_ChainStays.l0 kq l0 a1 a2 t386 x8_2 x9_2 = some r) ∧ Aside0 (kq ≤ kj5) ∧ Aside0 (Kd.R k40 40 w' w.heap.size (fun _ => True) v387 t386) ∧ Aside0 (Below w.heap.size w w'))
          case atStart => exact ⟨(0), (0), (by first | rfl | (simp; done) | (simp [*]; done)), (by first | rfl | (simp; done) | (simp [*]; done)), H', ⟨Nat.le_refl _⟩, ⟨by (with_reducible repeat (first | apply Kd.R_alloc | apply Kd.R_drewN | apply Kd.R_drew)); exact HO388.out⟩, ⟨by repeat (first | (with_reducible first | exact HB.out | apply below_alloc | apply pw_below_drewN | apply below_drew1) | exact HB.out)⟩⟩
          case round =>
            clear H'
            try clear c1
            try clear p2
            try clear c5
            try clear c8
            try clear c8b0
            try clear c8b1
            try clear c10
            try clear p2
            obtain ⟨x8_2, x9_2, rfl, rfl, HA, HK2, HO_7, HB⟩ := hrel
            cases gk with
            | zero => exact absurd HA.out (by simp [ebbtidelaw10_ChainStays.l0])
            | succ k2 =>
              have H := HA.out
              clear HA
              simp only [ebbtidelaw10_ChainStays.l0] at H
              by_cases c13 : x9_2 < (t386.length : Int)
              · rw [if_pos c13] at H
                have c13b0 : decide (x9_2 < (t386.length : Int)) = true := decide_eq_true c13
                clear c13
                by_cases c14 : 0 ≤ x9_2
                · rw [if_pos c14] at H
                  have c14b0 : decide (0 ≤ x9_2) = true := decide_eq_true c14
                  clear c14
                  by_cases c15 : ((rd_T40 t386 x9_2).f0) ≤ a1
                  · rw [if_pos c15] at H
                    have c15b0 : decide (((rd_T40 t386 x9_2).f0) ≤ a1) = true := decide_eq_true c15
                    clear c15
                    have H' := Aside0.mk H
                    clear H
                    obtain ⟨Ao16, co16, eo16⟩ := Kd.R_slice HO_7.out
                    subst eo16
                    have p389 : 0 ≤ (x9_2 : Int) := of_decide_eq_true (by first | (with_reducible assumption) | assumption)
                    have q389 : x9_2 < (t386.length : Int) := of_decide_eq_true (by first | (with_reducible assumption) | assumption)
                    obtain ⟨ad389, e389, hx389_0, hx389_1, hx389_2, hx389_3, hx389_4, hx389_5⟩ := at_T40 (Kd.R_reads' HO_7.out).2.2 x9_2 p389 q389
                    cases e389
                    replace p389 := eq_true p389
                    replace q389 := eq_true q389
                    go_wp2
                    go_roundg k2
                    case measure => have := HJ5.out; have := HK2.out; omega
                    case rel => exact ⟨(wrap64 (x8_2 + 1)), (wrap64 (x9_2 + 1)), (by first | rfl | (simp; done) | (simp [*]; done)), (by first | rfl | (simp; done) | (simp [*]; done)), H', ⟨by have := HJ5.out; have := HK2.out; omega⟩, ⟨by (with_reducible repeat (first | apply Kd.R_alloc | apply Kd.R_drewN | apply Kd.R_drew)); exact HO_7.out⟩, ⟨by repeat (first | (with_reducible first | exact HB.out | apply below_alloc | apply pw_below_drewN | apply below_drew1) | exact HB.out)⟩⟩
                  · rw [if_neg c15] at H
                    have c15b0 : decide (((rd_T40 t386 x9_2).f0) ≤ a1) = false := decide_eq_false c15
                    clear c15
                    have H' := Aside0.mk H
                    clear H
                    obtain ⟨Ao17, co17, eo17⟩ := Kd.R_slice HO_7.out
                    subst eo17
                    have p389 : 0 ≤ (x9_2 : Int) := of_decide_eq_true (by first | (with_reducible assumption) | assumption)
                    have q389 : x9_2 < (t386.length : Int) := of_decide_eq_true (by first | (with_reducible assumption) | assumption)
                    obtain ⟨ad389, e389, hx389_0, hx389_1, hx389_2, hx389_3, hx389_4, hx389_5⟩ := at_T40 (Kd.R_reads' HO_7.out).2.2 x9_2 p389 q389
                    cases e389
                    replace p389 := eq_true p389
                    replace q389 := eq_true q389
                    go_wp2
                    go_roundg k2
                    case measure => have := HJ5.out; have := HK2.out; omega
                    case rel => exact ⟨(x8_2), (wrap64 (x9_2 + 1)), (by first | rfl | (simp; done) | (simp [*]; done)), (by first | rfl | (simp; done) | (simp [*]; done)), H', ⟨by have := HJ5.out; have := HK2.out; omega⟩, ⟨by (with_reducible repeat (first | apply Kd.R_alloc | apply Kd.R_drewN | apply Kd.R_drew)); exact HO_7.out⟩, ⟨by repeat (first | (with_reducible first | exact HB.out | apply below_alloc | apply pw_below_drewN | apply below_drew1) | exact HB.out)⟩⟩
                · rw [if_neg c14] at H
                  exact absurd H (by simp)
              · rw [if_neg c13] at H
                have c13b0 : decide (x9_2 < (t386.length : Int)) = false := decide_eq_false c13
                clear c13
                by_cases c18 : x8_2 ≤ 1
                · rw [if_pos c18] at H
                  have c18b0 : decide (x8_2 ≤ 1) = true := decide_eq_true c18
                  clear c18
                  by_cases c19 : (t386.length : Int) ≤ (l0.length : Int)
                  · rw [if_pos c19] at H
                    have c19b0 : decide ((t386.length : Int) ≤ (l0.length : Int)) = true := decide_eq_true c19
                    have c19b1 : decide (t386.length ≤ l0.length) = true := decide_eq_true (Int.ofNat_le.mp c19)
                    clear c19
                    replace H := Option.bind_eq_some_iff.mp H
                    obtain ⟨t390, A200, H⟩ := H
                    replace H : (if t390 = true then (if a2 < a1 then ((chain_Prune.f k2 t386 a1).bind fun t391 => ((ebbtideref10_Same.f k2 t391 t386).bind fun t394 => (some t394))) else ((chain_At.f k2 t386 a2).bind fun bt395 => ((chain_At.f k2 l0 a2).bind fun bt400 => (if (bt395.1 == bt400.1 && ((bt395.2.1 == bt400.2.1 && (bt395.2.2.1 == bt400.2.2.1)) && (bt395.2.2.2.1 == bt400.2.2.2.1 && (bt395.2.2.2.2 == bt400.2.2.2.2)))) = true then ((chain_Prune.f k2 t386 a1).bind fun t405 => ((ebbtideref10_Same.f k2 t405 t386).bind fun t408 => (some t408))) else (none))))) else (none)) = some r := H
                    have A20 := Aside0.mk A200
                    clear A200
                    by_cases c21 : t390 = true
                    · subst c21
                      have H1 : (if a2 < a1 then ((chain_Prune.f k2 t386 a1).bind fun t391 => ((ebbtideref10_Same.f k2 t391 t386).bind fun t394 => (some t394))) else ((chain_At.f k2 t386 a2).bind fun bt395 => ((chain_At.f k2 l0 a2).bind fun bt400 => (if (bt395.1 == bt400.1 && ((bt395.2.1 == bt400.2.1 && (bt395.2.2.1 == bt400.2.2.1)) && (bt395.2.2.2.1 == bt400.2.2.2.1 && (bt395.2.2.2.2 == bt400.2.2.2.2)))) = true then ((chain_Prune.f k2 t386 a1).bind fun t405 => ((ebbtideref10_Same.f k2 t405 t386).bind fun t408 => (some t408))) else (none))))) = some r := by rw [if_pos rfl] at H; exact H
                      clear H
                      have H := H1
                      clear H1
                      by_cases c22 : a2 < a1
                      · rw [if_pos c22] at H
                        have c22b0 : decide (a2 < a1) = true := decide_eq_true c22
                        clear c22
                        replace H := Option.bind_eq_some_iff.mp H
                        obtain ⟨t391, A230, H⟩ := H
                        replace H : ((ebbtideref10_Same.f k2 t391 t386).bind fun t394 => (some t394)) = some r := H
                        have A23 := Aside0.mk A230
                        clear A230
                        replace H := Option.bind_eq_some_iff.mp H
                        obtain ⟨t394, A240, H⟩ := H
                        replace H : (some t394) = some r := H
                        have A24 := Aside0.mk A240
                        clear A240
                        obtain rfl := Option.some.inj H
                        obtain ⟨Ao25, co25, eo25⟩ := Kd.R_slice HO_7.out
                        subst eo25
                        go_wp2_with (first | (go_at_call 10; (with_reducible refine (ebbtideref10_Right.calls k2 _ _ t386 true _ ?side1 ?side2 A20.out).mono ?_); (case side1 => repeat (first | exact (Kd.R_reads' HO_7.out).2.2 | (with_reducible refine Kd.C_alloc ?_ _) | (with_reducible refine Kd.C_drewN ?_ _) | (with_reducible refine Kd.C_drew ?_))); (case side2 => exact (Kd.R_reads' HO_7.out).2.1); rintro e w' ⟨rfl, ⟨nd, rfl⟩⟩) | (go_at_call 16; (with_reducible refine (chain_Prune.calls k2 _ _ t386 a1 t391 _ ?side1 ?side2 A23.out).mono ?_); (case side1 => repeat (first | exact (Kd.R_reads' HO_7.out).2.2 | (with_reducible refine Kd.C_alloc ?_ _) | (with_reducible refine Kd.C_drewN ?_ _) | (with_reducible refine Kd.C_drew ?_))); (case side2 => exact (Kd.R_reads' HO_7.out).2.1); rintro e w26 ⟨v392, rfl, ho0, hb⟩; have n0_ := Aside0.mk (Kd.R_elder' (by (with_reducible repeat (first | apply Kd.R_alloc | apply Kd.R_drewN | apply Kd.R_drew)); exact HO_7.out) (Kd.R_base ho0) hb); have n1_ := Aside0.mk (Kd.R_lower (Kd.R_new' ho0 (Kd.R_lt (by (with_reducible repeat (first | apply Kd.R_alloc | apply Kd.R_drewN | apply Kd.R_drew)); exact HO_7.out))) (below_size (by repeat (first | (with_reducible first | exact HB.out | apply below_alloc | apply pw_below_drewN | apply below_drew1) | exact HB.out)))); have n2_ := Aside0.mk (below_step (by repeat (first | (with_reducible first | exact HB.out | apply below_alloc | apply pw_below_drewN | apply below_drew1) | exact HB.out)) hb); clear HO_7; clear HB; have HO_7 := n0_; have HO393 := n1_; have HB := n2_; clear n0_ n1_ n2_; (try clear hb); (try clear hb2); (try clear hk); (try clear hi); (try clear ho0); obtain ⟨Ao27, co27, eo27⟩ := Kd.R_slice HO393.out; subst eo27) | (go_at_call 15; (with_reducible refine (ebbtideref10_Same.calls k2 _ _ t391 _ _ t386 t394 _ ?side1 ?side2 ?side3 ?side4 A24.out).mono ?_); (case side1 => repeat (first | exact (Kd.R_reads' HO393.out).2.2 | (with_reducible refine Kd.C_alloc ?_ _) | (with_reducible refine Kd.C_drewN ?_ _) | (with_reducible refine Kd.C_drew ?_))); (case side2 => exact (Kd.R_reads' HO393.out).2.1); (case side3 => repeat (first | exact (Kd.R_reads' HO_7.out).2.2 | (with_reducible refine Kd.C_alloc ?_ _) | (with_reducible refine Kd.C_drewN ?_ _) | (with_reducible refine Kd.C_drew ?_))); (case side4 => exact (Kd.R_reads' HO_7.out).2.1); rintro e w' ⟨rfl, ⟨nd, rfl⟩⟩))
                        go_ret
                        exact ⟨by first | rfl | (simp [errW_none, errW_some] <;> rfl) | (simp [*, errW_none, errW_some] <;> rfl), by repeat (first | (with_reducible first | exact HB.out | apply below_alloc | apply pw_below_drewN | apply below_drew1) | exact HB.out)⟩
                      · rw [if_neg c22] at H
                        have c22b0 : decide (a2 < a1) = false := decide_eq_false c22
                        clear c22
                        replace H := Option.bind_eq_some_iff.mp H
                        obtain ⟨⟨t395, t396, t397, t398, t399⟩, A280, H⟩ := H
                        replace H : ((chain_At.f k2 l0 a2).bind fun bt400 => (if (t395 == bt400.1 && ((t396 == bt400.2.1 && (t397 == bt400.2.2.1)) && (t398 == bt400.2.2.2.1 && (t399 == bt400.2.2.2.2)))) = true then ((chain_Prune.f k2 t386 a1).bind fun t405 => ((ebbtideref10_Same.f k2 t405 t386).bind fun t408 => (some t408))) else (none))) = some r := H
                        have A28 := Aside0.mk A280
                        clear A280
                        replace H := Option.bind_eq_some_iff.mp H
                        obtain ⟨⟨t400, t401, t402, t403, t404⟩, A290, H⟩ := H
                        replace H : (if (t395 == t400 && ((t396 == t401 && (t397 == t402)) && (t398 == t403 && (t399 == t404)))) = true then ((chain_Prune.f k2 t386 a1).bind fun t405 => ((ebbtideref10_Same.f k2 t405 t386).bind fun t408 => (some t408))) else (none)) = some r := H
                        have A29 := Aside0.mk A290
                        clear A290
                        by_cases c30 : (t395 == t400 && ((t396 == t401 && (t397 == t402)) && (t398 == t403 && (t399 == t404)))) = true
                        · rw [if_pos c30] at H
                          have c30b0 : (t395 == t400 && ((t396 == t401 && (t397 == t402)) && (t398 == t403 && (t399 == t404)))) = true := c30
                          (try (have c30b1 : decide (t395 = t400 && ((t396 == t401 && (t397 == t402)) && (t398 == t403 && (t399 == t404)))) = true := by simpa using c30))
                          (try (have c30b2 : (t395 == t400 && ((t396 == t401 && (t397 == t402)) && (t398 == t403 && (t399 == t404)))) = true := by simpa using c30))
                          clear c30
                          replace H := Option.bind_eq_some_iff.mp H
                          obtain ⟨t405, A310, H⟩ := H
                          replace H : ((ebbtideref10_Same.f k2 t405 t386).bind fun t408 => (some t408)) = some r := H
                          have A31 := Aside0.mk A310
                          clear A310
                          replace H := Option.bind_eq_some_iff.mp H
                          obtain ⟨t408, A320, H⟩ := H
                          replace H : (some t408) = some r := H
                          have A32 := Aside0.mk A320
                          clear A320
                          obtain rfl := Option.some.inj H
                          obtain ⟨Ao33, co33, eo33⟩ := Kd.R_slice HO_7.out
                          subst eo33
                          go_wp2_with (first | (go_at_call 10; (with_reducible refine (ebbtideref10_Right.calls k2 _ _ t386 true _ ?side1 ?side2 A20.out).mono ?_); (case side1 => repeat (first | exact (Kd.R_reads' HO_7.out).2.2 | (with_reducible refine Kd.C_alloc ?_ _) | (with_reducible refine Kd.C_drewN ?_ _) | (with_reducible refine Kd.C_drew ?_))); (case side2 => exact (Kd.R_reads' HO_7.out).2.1); rintro e w' ⟨rfl, ⟨nd, rfl⟩⟩) | (go_at_call 11; (with_reducible refine (chain_At.calls k2 _ _ t386 a2 t395 t396 t397 t398 t399 _ ?side1 ?side2 A28.out).mono ?_); (case side1 => repeat (first | exact (Kd.R_reads' HO_7.out).2.2 | (with_reducible refine Kd.C_alloc ?_ _) | (with_reducible refine Kd.C_drewN ?_ _) | (with_reducible refine Kd.C_drew ?_))); (case side2 => exact (Kd.R_reads' HO_7.out).2.1); rintro e w34 ⟨rfl, hb⟩; have n0_ := Aside0.mk (Kd.R_below (by (with_reducible repeat (first | apply Kd.R_alloc | apply Kd.R_drewN | apply Kd.R_drew)); exact HO_7.out) hb); have n1_ := Aside0.mk (below_step (by repeat (first | (with_reducible first | exact HB.out | apply below_alloc | apply pw_below_drewN | apply below_drew1) | exact HB.out)) hb); clear HO_7; clear HB; have HO_7 := n0_; have HB := n1_; clear n0_ n1_; (try clear hb); (try clear hb2); (try clear hk); (try clear hi)) | (go_at_call 11; (with_reducible refine (chain_At.calls k2 _ _ l0 a2 t400 t401 t402 t403 t404 _ ?side1 ?side2 A29.out).mono ?_); (case side1 => repeat (first | exact (Kd.C_below HR0.out HB.out) | (with_reducible refine Kd.C_alloc ?_ _) | (with_reducible refine Kd.C_drewN ?_ _) | (with_reducible refine Kd.C_drew ?_))); (case side2 => exact HC0.out); rintro e w35 ⟨rfl, hb⟩; have n0_ := Aside0.mk (Kd.R_below (by (with_reducible repeat (first | apply Kd.R_alloc | apply Kd.R_drewN | apply Kd.R_drew)); exact HO_7.out) hb); have n1_ := Aside0.mk (below_step (by repeat (first | (with_reducible first | exact HB.out | apply below_alloc | apply pw_below_drewN | apply below_drew1) | exact HB.out)) hb); clear HO_7; clear HB; have HO_7 := n0_; have HB := n1_; clear n0_ n1_; (try clear hb); (try clear hb2); (try clear hk); (try clear hi)) | (go_at_call 16; (with_reducible refine (chain_Prune.calls k2 _ _ t386 a1 t405 _ ?side1 ?side2 A31.out).mono ?_); (case side1 => repeat (first | exact (Kd.R_reads' HO_7.out).2.2 | (with_reducible refine Kd.C_alloc ?_ _) | (with_reducible refine Kd.C_drewN ?_ _) | (with_reducible refine Kd.C_drew ?_))); (case side2 => exact (Kd.R_reads' HO_7.out).2.1); rintro e w36 ⟨v406, rfl, ho0, hb⟩; have n0_ := Aside0.mk (Kd.R_elder' (by (with_reducible repeat (first | apply Kd.R_alloc | apply Kd.R_drewN | apply Kd.R_drew)); exact HO_7.out) (Kd.R_base ho0) hb); have n1_ := Aside0.mk (Kd.R_lower (Kd.R_new' ho0 (Kd.R_lt (by (with_reducible repeat (first | apply Kd.R_alloc | apply Kd.R_drewN | apply Kd.R_drew)); exact HO_7.out))) (below_size (by repeat (first | (with_reducible first | exact HB.out | apply below_alloc | apply pw_below_drewN | apply below_drew1) | exact HB.out)))); have n2_ := Aside0.mk (below_step (by repeat (first | (with_reducible first | exact HB.out | apply below_alloc | apply pw_below_drewN | apply below_drew1) | exact HB.out)) hb); clear HO_7; clear HB; have HO_7 := n0_; have HO407 := n1_; have HB := n2_; clear n0_ n1_ n2_; (try clear hb); (try clear hb2); (try clear hk); (try clear hi); (try clear ho0); obtain ⟨Ao37, co37, eo37⟩ := Kd.R_slice HO407.out; subst eo37) | (go_at_call 15; (with_reducible refine (ebbtideref10_Same.calls k2 _ _ t405 _ _ t386 t408 _ ?side1 ?side2 ?side3 ?side4 A32.out).mono ?_); (case side1 => repeat (first | exact (Kd.R_reads' HO407.out).2.2 | (with_reducible refine Kd.C_alloc ?_ _) | (with_reducible refine Kd.C_drewN ?_ _) | (with_reducible refine Kd.C_drew ?_))); (case side2 => exact (Kd.R_reads' HO407.out).2.1); (case side3 => repeat (first | exact (Kd.R_reads' HO_7.out).2.2 | (with_reducible refine Kd.C_alloc ?_ _) | (with_reducible refine Kd.C_drewN ?_ _) | (with_reducible refine Kd.C_drew ?_))); (case side4 => exact (Kd.R_reads' HO_7.out).2.1); rintro e w' ⟨rfl, ⟨nd, rfl⟩⟩))
                          go_ret
                          exact ⟨by first | rfl | (simp [errW_none, errW_some] <;> rfl) | (simp [*, errW_none, errW_some] <;> rfl), by repeat (first | (with_reducible first | exact HB.out | apply below_alloc | apply pw_below_drewN | apply below_drew1) | exact HB.out)⟩
                        · rw [if_neg c30] at H
                          exact absurd H (by simp)
                    · replace c21 := Bool.eq_false_iff.mpr c21
                      subst c21
                      have H1 : (none) = some r := by rw [if_neg (show ¬ (false = true) by decide)] at H; exact H
                      clear H
                      have H := H1
                      clear H1
                      exact absurd H (by simp)
                  · rw [if_neg c19] at H
                    exact absurd H (by simp)
                · rw [if_neg c18] at H
                  exact absurd H (by simp)
  · replace c5 := Bool.eq_false_iff.mpr c5
    subst c5
    have H1 : (none) = some r := by rw [if_neg (show ¬ (false = true) by decide)] at H; exact H
    clear H
    have H := H1
    clear H1
    exact absurd H (by simp)

/-- THE ONE PURE STATEMENT of ebbtidelaw10_ChainStays. -/
def ebbtidelaw10_ChainStays.Pure : Prop := ∀ (l0 : List (S40)) (a1 : Int) (a2 : Int), (l0.length ≤ maxLen ∧ ∀ x0_ ∈ l0, Q40 x0_) → l0.length * 48 ≤ 140737488351232 → ((Lit.int .i64 a1).wf = true) → ((Lit.int .i64 a2).wf = true) → ∃ k, ebbtidelaw10_ChainStays.f k l0 a1 a2 = some true
theorem ebbtidelaw10_ChainStays.walk (P : ebbtidelaw10_ChainStays.Pure) (l0 : List (S40)) (a1 : Int) (a2 : Int) (w : World) (A0 : Option Addr) (c0 : Nat) (hr0 : Kd.C k40 w A0 l0.length l0) (hc0 : l0.length ≤ c0) (q0 : l0.length ≤ maxLen ∧ ∀ x0_ ∈ l0, Q40 x0_) (y0 : l0.length * 48 ≤ 140737488351232) (q1 : (Lit.int .i64 a1).wf = true) (q2 : (Lit.int .i64 a2).wf = true) :
    Calls Try.prog 5 #[.slice A0 l0.length c0, .int .i64 a1, .int .i64 a2] w fun e w' => e = .returned (.bool true) ∧ Below w.heap.size w w' := by
  obtain ⟨k, h⟩ := P l0 a1 a2 q0 y0 q1 q2
  refine (ebbtidelaw10_ChainStays.calls k A0 c0 l0 a1 a2 true w hr0 hc0 h).mono ?_
  rintro e w' ⟨rfl, hd⟩
  exact ⟨rfl, hd⟩

end Go.Proofs.Ythphlphkmfgkdaa.X
