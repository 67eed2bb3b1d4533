/- Printed by a program of this session's own: what functions of the program compute, and that the machine computes it. -/
import Derived.Test.YtdmobcaidjilcaaDoorXx0
import Derived.Test.YtdmobcaidjilcaaDoorXx3
import Derived.Test.YtdmobcaidjilcaaDoorXx6
import Derived.Test.YtdmobcaidjilcaaDoorXx7
import Derived.Test.YtdmobcaidjilcaaDoorXx9
import Derived.Test.YtdmobcaidjilcaaDoorXx10
import Derived.Test.YtdmobcaidjilcaaDoorXx11
namespace Go.Proofs.YtdmobcaidjilcaaDoor.X
open Go.RowKit Go.Proofs.YtdmobcaidjilcaaDoorW.PrintWords Go.Proofs.YtdmobcaidjilcaaDoorW.PrintLast Go.Proofs.YtdmobcaidjilcaaDoorW.PrintMore
attribute [local go_sem] max2_int min2_int max_two min_two max_three min_three max_four min_four   -- for this text's walks alone
set_option linter.unusedVariables false
set_option linter.unusedSimpArgs false

/-! ### ebbtidelaw05_PickBack: function 6 -/
mutual
def ebbtidelaw05_PickBack.j0 : Nat → List (S39) → ByteArray → Bool → Option (Bool)
  | 0, _, _, _ => none
  | k + 1, x0, x1, x17 => if x17 = true then (some true) else ((ebbtideref05_Right.f k x0).bind fun t299 => (if t299 = true then ((pick_Text.f k x0).bind fun t300 => ((pick_Parse.f k t300).bind fun bt301 => (if bt301.2 = 0 then ((ebbtideref05_Same.f k bt301.1 x0).bind fun t305 => (if t305 = true then (ebbtidelaw05_PickBack.j1 k x1) else (none))) else (none)))) else (ebbtidelaw05_PickBack.j1 k x1)))
def ebbtidelaw05_PickBack.j1 : Nat → ByteArray → Option (Bool)
  | 0, _ => none
  | k + 1, x1 => (pick_Parse.f k x1).bind fun bt306 => (if bt306.2 = 0 then ((ebbtideref05_Right.f k bt306.1).bind fun t310 => (if t310 = true then ((pick_Text.f k bt306.1).bind fun t311 => (some (t311.toList == x1.toList))) else (none))) else (some ((bt306.1.length : Int) == 0)))
end
def ebbtidelaw05_PickBack.f (k : Nat) (l0 : List (S39)) (a1 : ByteArray) : Option (Bool) := (ebbtidelaw05_alive.f k).bind fun t297 => (if t297 = true then ((ebbtideref05_Great.f k l0).bind fun t298 => (if t298 = true then (ebbtidelaw05_PickBack.j0 k l0 a1 true) else (ebbtidelaw05_PickBack.j0 k l0 a1 (decide ((a1.size : Int) > 500))))) else (none))
theorem ebbtidelaw05_PickBack.mono_l : ∀ k, (∀ y0 y1 y2, LeO (ebbtidelaw05_PickBack.j0 k y0 y1 y2) (ebbtidelaw05_PickBack.j0 (k + 1) y0 y1 y2)) ∧ (∀ y0, LeO (ebbtidelaw05_PickBack.j1 k y0) (ebbtidelaw05_PickBack.j1 (k + 1) y0))
  | 0 => ⟨fun _ _ _ r h => by simp [ebbtidelaw05_PickBack.j0] at h, fun _ r h => by simp [ebbtidelaw05_PickBack.j1] at h⟩
  | k + 1 => by
    obtain ⟨ih0, ih1⟩ := ebbtidelaw05_PickBack.mono_l k
    refine ⟨?_, ?_⟩
    · intro y0 y1 y2
      unfold ebbtidelaw05_PickBack.j0
      repeat' first
      | (with_reducible exact ih0 _ _ _)
      | (with_reducible exact ih1 _)
      | (with_reducible exact ebbtidelaw05_alive.mono _)
      | (with_reducible exact ebbtideref05_Great.mono _ _)
      | (with_reducible exact ebbtideref05_Right.mono _ _)
      | (with_reducible exact ebbtideref05_Same.mono _ _ _)
      | (with_reducible exact pick_Parse.mono _ _)
      | (with_reducible exact pick_Text.mono _ _)
      | (with_reducible exact LeO.refl _)
      | (with_reducible exact LeO.none _)
      | (with_reducible refine LeO.ite ?_ ?_)
      | (with_reducible refine LeO.bind ?_ (fun _ => ?_))
      | exact ih0 _ _ _
      | exact ih1 _
      | exact ebbtidelaw05_alive.mono _
      | exact ebbtideref05_Great.mono _ _
      | exact ebbtideref05_Right.mono _ _
      | exact ebbtideref05_Same.mono _ _ _
      | exact pick_Parse.mono _ _
      | exact pick_Text.mono _ _
      | exact LeO.none _
      | refine LeO.ite ?_ ?_
      | refine LeO.bind ?_ (fun _ => ?_)
    · intro y0
      unfold ebbtidelaw05_PickBack.j1
      repeat' first
      | (with_reducible exact ih0 _ _ _)
      | (with_reducible exact ih1 _)
      | (with_reducible exact ebbtidelaw05_alive.mono _)
      | (with_reducible exact ebbtideref05_Great.mono _ _)
      | (with_reducible exact ebbtideref05_Right.mono _ _)
      | (with_reducible exact ebbtideref05_Same.mono _ _ _)
      | (with_reducible exact pick_Parse.mono _ _)
      | (with_reducible exact pick_Text.mono _ _)
      | (with_reducible exact LeO.refl _)
      | (with_reducible exact LeO.none _)
      | (with_reducible refine LeO.ite ?_ ?_)
      | (with_reducible refine LeO.bind ?_ (fun _ => ?_))
      | exact ih0 _ _ _
      | exact ih1 _
      | exact ebbtidelaw05_alive.mono _
      | exact ebbtideref05_Great.mono _ _
      | exact ebbtideref05_Right.mono _ _
      | exact ebbtideref05_Same.mono _ _ _
      | exact pick_Parse.mono _ _
      | exact pick_Text.mono _ _
      | exact LeO.none _
      | refine LeO.ite ?_ ?_
      | refine LeO.bind ?_ (fun _ => ?_)
theorem ebbtidelaw05_PickBack.mono : ∀ a0 a1 k, LeO (ebbtidelaw05_PickBack.f k a0 a1) (ebbtidelaw05_PickBack.f (k + 1) a0 a1) := by
  intro a0 a1 k
  obtain ⟨ih0, ih1⟩ := ebbtidelaw05_PickBack.mono_l k
  unfold ebbtidelaw05_PickBack.f
  repeat' first
      | (with_reducible exact ih0 _ _ _)
      | (with_reducible exact ih1 _)
      | (with_reducible exact ebbtidelaw05_alive.mono _)
      | (with_reducible exact ebbtideref05_Great.mono _ _)
      | (with_reducible exact ebbtideref05_Right.mono _ _)
      | (with_reducible exact ebbtideref05_Same.mono _ _ _)
      | (with_reducible exact pick_Parse.mono _ _)
      | (with_reducible exact pick_Text.mono _ _)
      | (with_reducible exact LeO.refl _)
      | (with_reducible exact LeO.none _)
      | (with_reducible refine LeO.ite ?_ ?_)
      | (with_reducible refine LeO.bind ?_ (fun _ => ?_))
      | exact ih0 _ _ _
      | exact ih1 _
      | exact ebbtidelaw05_alive.mono _
      | exact ebbtideref05_Great.mono _ _
      | exact ebbtideref05_Right.mono _ _
      | exact ebbtideref05_Same.mono _ _ _
      | exact pick_Parse.mono _ _
      | exact pick_Text.mono _ _
      | exact LeO.none _
      | refine LeO.ite ?_ ?_
      | refine LeO.bind ?_ (fun _ => ?_)
set_option maxHeartbeats 8000000 in
set_option maxRecDepth 100000 in
theorem ebbtidelaw05_PickBack.calls (k : Nat) (A0 : Option Addr) (c0 : Nat) (l0 : List (S39)) (a1 : ByteArray) (r : Bool) (w : World) (hr0 : Kd.C k39 w A0 l0.length l0) (hc0 : l0.length ≤ c0) (hL : LD w) (h : ebbtidelaw05_PickBack.f k l0 a1 = some r) :
    Calls Tryd.prog 6 #[.slice A0 l0.length c0, .string a1] w fun e w' => e = .returned (.bool r) ∧ Below w.heap.size w w' := by
  have HL0 := Aside0.mk hL
  clear hL
  have HR0 := Aside0.mk hr0
  have HC0 := Aside0.mk hc0
  clear hr0 hc0
  have HB := Aside0.mk (Below.refl w.heap.size w)
  have H : ((ebbtidelaw05_alive.f k).bind fun t297 => (if t297 = true then ((ebbtideref05_Great.f k l0).bind fun t298 => (if t298 = true then (ebbtidelaw05_PickBack.j0 k l0 a1 true) else (ebbtidelaw05_PickBack.j0 k l0 a1 (decide ((a1.size : Int) > 500))))) else (none))) = some r := h
  clear h
  replace H := Option.bind_eq_some_iff.mp H
  obtain ⟨t297, A30, H⟩ := H
  replace H : (if t297 = true then ((ebbtideref05_Great.f k l0).bind fun t298 => (if t298 = true then (ebbtidelaw05_PickBack.j0 k l0 a1 true) else (ebbtidelaw05_PickBack.j0 k l0 a1 (decide ((a1.size : Int) > 500))))) else (none)) = some r := H
  have A3 := Aside0.mk A30
  clear A30
  by_cases c4 : t297 = true
  · subst c4
    have H1 : ((ebbtideref05_Great.f k l0).bind fun t298 => (if t298 = true then (ebbtidelaw05_PickBack.j0 k l0 a1 true) else (ebbtidelaw05_PickBack.j0 k l0 a1 (decide ((a1.size : Int) > 500))))) = some r := by rw [if_pos rfl] at H; exact H
    clear H
    have H := H1
    clear H1
    have HC5 := Aside0.mk H
    clear H
    go_enter Tryd.func6, Tryd.ntmps6
    go_upto_region 3 with (first | ((with_reducible refine gate_callee (f := 8) rfl ?_); refine goesL_ (some 9) rfl rfl Tryd.func8 (by kernel_rfl) rfl #[] rfl (by (try simp only [List.map_toArray, List.map_cons, List.map_nil]); first | done | rfl | (simp only [List.length_drop, List.length_take]; rfl)) ?_; (with_reducible refine (ebbtidelaw05_alive.calls (hL := (by first | exact HL0.out | exact LD.below HL0.out (by repeat (first | (with_reducible first | exact HB.out | apply below_alloc | apply pw_below_drewN | apply below_drew1) | exact HB.out)))) k  true _ A3.out).mono ?_); rintro e w6 ⟨rfl, hb⟩; refine ⟨_, rfl, ?_⟩; have n0_ := Aside0.mk (below_step (by repeat (first | (with_reducible first | exact HB.out | apply below_alloc | apply pw_below_drewN | apply below_drew1) | exact HB.out)) hb); clear HB; have HB := n0_; clear n0_; (try clear hb); (try clear hb2); (try clear hk); (try clear hi)))
    (try simp only [Act.put, List.setIfInBounds_toArray, List.set_cons_zero, List.set_cons_succ])
    go_cut [17] (fun v17 wc => ∃ (kq : Nat) (x17_4 : Bool), v17 = .bool x17_4 ∧ Aside0 (ebbtidelaw05_PickBack.j0 kq l0 a1 x17_4 = some r) ∧ Aside0 (kq ≤ k) ∧ Aside0 (Below w.heap.size w wc))
    case first =>
      have H := HC5.out
      clear HC5
      replace H := Option.bind_eq_some_iff.mp H
      obtain ⟨t298, A70, H⟩ := H
      replace H : (if t298 = true then (ebbtidelaw05_PickBack.j0 k l0 a1 true) else (ebbtidelaw05_PickBack.j0 k l0 a1 (decide ((a1.size : Int) > 500)))) = some r := H
      have A7 := Aside0.mk A70
      clear A70
      by_cases c8 : t298 = true
      · subst c8
        have H1 : (ebbtidelaw05_PickBack.j0 k l0 a1 true) = some r := by rw [if_pos rfl] at H; exact H
        clear H
        have H := H1
        clear H1
        have H' := Aside0.mk H
        clear H
        go_wp2_with (first | ((with_reducible refine gate_callee (f := 9) rfl ?_); refine goesL_ (some 12) rfl rfl Tryd.func9 (by kernel_rfl) rfl #[.slice A0 l0.length c0] rfl (by (try simp only [List.map_toArray, List.map_cons, List.map_nil]); first | done | rfl | (simp only [List.length_drop, List.length_take]; rfl)) ?_; (with_reducible refine (ebbtideref05_Great.calls k _ _ l0 true _ ?side1 ?side2 A7.out).mono ?_); (case side1 => repeat (first | exact (Kd.C_below HR0.out HB.out) | (with_reducible refine Kd.C_alloc ?_ _) | (with_reducible refine Kd.C_drewN ?_ _) | (with_reducible refine Kd.C_drew ?_))); (case side2 => exact HC0.out); rintro e w' ⟨rfl, ⟨nd, rfl⟩⟩; refine ⟨_, rfl, ?_⟩))
        go_meet
        case rel => exact ⟨_, (true), (by first | rfl | (simp; done) | (simp [*]; done)), H', ⟨by first | omega | exact Nat.le_refl _⟩, ⟨by repeat (first | (with_reducible first | exact HB.out | apply below_alloc | apply pw_below_drewN | apply below_drew1) | exact HB.out)⟩⟩
      · replace c8 := Bool.eq_false_iff.mpr c8
        subst c8
        have H1 : (ebbtidelaw05_PickBack.j0 k l0 a1 (decide ((a1.size : Int) > 500))) = some r := by rw [if_neg (show ¬ (false = true) by decide)] at H; exact H
        clear H
        have H := H1
        clear H1
        have H' := Aside0.mk H
        clear H
        go_wp2_with (first | ((with_reducible refine gate_callee (f := 9) rfl ?_); refine goesL_ (some 12) rfl rfl Tryd.func9 (by kernel_rfl) rfl #[.slice A0 l0.length c0] rfl (by (try simp only [List.map_toArray, List.map_cons, List.map_nil]); first | done | rfl | (simp only [List.length_drop, List.length_take]; rfl)) ?_; (with_reducible refine (ebbtideref05_Great.calls k _ _ l0 false _ ?side1 ?side2 A7.out).mono ?_); (case side1 => repeat (first | exact (Kd.C_below HR0.out HB.out) | (with_reducible refine Kd.C_alloc ?_ _) | (with_reducible refine Kd.C_drewN ?_ _) | (with_reducible refine Kd.C_drew ?_))); (case side2 => exact HC0.out); rintro e w' ⟨rfl, ⟨nd, rfl⟩⟩; refine ⟨_, rfl, ?_⟩))
        go_meet
        case rel => exact ⟨_, (decide ((a1.size : Int) > 500)), (by first | rfl | (simp; done) | (simp [*]; done)), H', ⟨by first | omega | exact Nat.le_refl _⟩, ⟨by repeat (first | (with_reducible first | exact HB.out | apply below_alloc | apply pw_below_drewN | apply below_drew1) | exact HB.out)⟩⟩
    case rest =>
      clear HC5
      try clear p2
      try clear c4
      try clear c6
      try clear c8
      obtain ⟨kq, x17_4, rfl, HA, HJ4, HB⟩ := hcut
      cases kq with
      | zero => exact absurd HA.out (by simp [ebbtidelaw05_PickBack.j0])
      | succ kj4 =>
        have H := HA.out
        clear HA
        simp only [ebbtidelaw05_PickBack.j0] at H
        by_cases c9 : x17_4 = true
        · subst c9
          have H1 : (some true) = some r := by rw [if_pos rfl] at H; exact H
          clear H
          have H := H1
          clear H1
          obtain rfl := Option.some.inj H
          go_wp2
          go_ret
          exact ⟨by first | rfl | (simp [errW_none, errW_some] <;> rfl) | (simp [*, errW_none, errW_some] <;> rfl), by repeat (first | (with_reducible first | exact HB.out | apply below_alloc | apply pw_below_drewN | apply below_drew1) | exact HB.out)⟩
        · replace c9 := Bool.eq_false_iff.mpr c9
          subst c9
          have H1 : ((ebbtideref05_Right.f kj4 l0).bind fun t299 => (if t299 = true then ((pick_Text.f kj4 l0).bind fun t300 => ((pick_Parse.f kj4 t300).bind fun bt301 => (if bt301.2 = 0 then ((ebbtideref05_Same.f kj4 bt301.1 l0).bind fun t305 => (if t305 = true then (ebbtidelaw05_PickBack.j1 kj4 a1) else (none))) else (none)))) else (ebbtidelaw05_PickBack.j1 kj4 a1))) = some r := by rw [if_neg (show ¬ (false = true) by decide)] at H; exact H
          clear H
          have H := H1
          clear H1
          replace H := Option.bind_eq_some_iff.mp H
          obtain ⟨t299, A100, H⟩ := H
          replace H : (if t299 = true then ((pick_Text.f kj4 l0).bind fun t300 => ((pick_Parse.f kj4 t300).bind fun bt301 => (if bt301.2 = 0 then ((ebbtideref05_Same.f kj4 bt301.1 l0).bind fun t305 => (if t305 = true then (ebbtidelaw05_PickBack.j1 kj4 a1) else (none))) else (none)))) else (ebbtidelaw05_PickBack.j1 kj4 a1)) = some r := H
          have A10 := Aside0.mk A100
          clear A100
          have HC11 := Aside0.mk H
          clear H
          go_upto_if 19 with (first | ((with_reducible refine gate_callee (f := 11) rfl ?_); refine goesL_ (some 19) rfl rfl Tryd.func11 (by kernel_rfl) rfl #[.slice A0 l0.length c0] rfl (by (try simp only [List.map_toArray, List.map_cons, List.map_nil]); first | done | rfl | (simp only [List.length_drop, List.length_take]; rfl)) ?_; (with_reducible refine (ebbtideref05_Right.calls kj4 _ _ l0 t299 _ ?side1 ?side2 A10.out).mono ?_); (case side1 => repeat (first | exact (Kd.C_below HR0.out HB.out) | (with_reducible refine Kd.C_alloc ?_ _) | (with_reducible refine Kd.C_drewN ?_ _) | (with_reducible refine Kd.C_drew ?_))); (case side2 => exact HC0.out); rintro e w12 ⟨rfl, hb⟩; refine ⟨_, rfl, ?_⟩; have n0_ := Aside0.mk (below_step (by repeat (first | (with_reducible first | exact HB.out | apply below_alloc | apply pw_below_drewN | apply below_drew1) | exact HB.out)) hb); clear HB; have HB := n0_; clear n0_; (try clear hb); (try clear hb2); (try clear hk); (try clear hi)))
          (try simp only [Act.put, List.setIfInBounds_toArray, List.set_cons_zero, List.set_cons_succ])
          go_cut [] (fun wc => ∃ (kq : Nat), Aside0 (ebbtidelaw05_PickBack.j1 kq a1 = some r) ∧ Aside0 (kq ≤ kj4) ∧ Aside0 (Below w.heap.size w wc))
          case first =>
            have H := HC11.out
            clear HC11
            by_cases c13 : t299 = true
            · subst c13
              have H1 : ((pick_Text.f kj4 l0).bind fun t300 => ((pick_Parse.f kj4 t300).bind fun bt301 => (if bt301.2 = 0 then ((ebbtideref05_Same.f kj4 bt301.1 l0).bind fun t305 => (if t305 = true then (ebbtidelaw05_PickBack.j1 kj4 a1) else (none))) else (none)))) = some r := by rw [if_pos rfl] at H; exact H
              clear H
              have H := H1
              clear H1
              replace H := Option.bind_eq_some_iff.mp H
              obtain ⟨t300, A140, H⟩ := H
              replace H : ((pick_Parse.f kj4 t300).bind fun bt301 => (if bt301.2 = 0 then ((ebbtideref05_Same.f kj4 bt301.1 l0).bind fun t305 => (if t305 = true then (ebbtidelaw05_PickBack.j1 kj4 a1) else (none))) else (none))) = some r := H
              have A14 := Aside0.mk A140
              clear A140
              replace H := Option.bind_eq_some_iff.mp H
              obtain ⟨⟨t301, t302⟩, A150, H⟩ := H
              replace H : (if t302 = 0 then ((ebbtideref05_Same.f kj4 t301 l0).bind fun t305 => (if t305 = true then (ebbtidelaw05_PickBack.j1 kj4 a1) else (none))) else (none)) = some r := H
              have A15 := Aside0.mk A150
              clear A150
              by_cases c16 : t302 = 0
              · rw [if_pos c16] at H
                have c16b0 : (t302 == 0) = true := beq_iff_eq.mpr c16
                have c16b1 : (t302 != 0) = false := bne_eq_false_iff_eq.mpr c16
                clear c16
                (first | rw [c16b0] | (simp only [i64_w, i32_w]; rw [c16b0]) | skip)
                replace H := Option.bind_eq_some_iff.mp H
                obtain ⟨t305, A170, H⟩ := H
                replace H : (if t305 = true then (ebbtidelaw05_PickBack.j1 kj4 a1) else (none)) = some r := H
                have A17 := Aside0.mk A170
                clear A170
                by_cases c18 : t305 = true
                · subst c18
                  have H1 : (ebbtidelaw05_PickBack.j1 kj4 a1) = some r := by rw [if_pos rfl] at H; exact H
                  clear H
                  have H := H1
                  clear H1
                  have H' := Aside0.mk H
                  clear H
                  go_wp2_with (first | ((with_reducible refine gate_callee (f := 12) rfl ?_); refine goesL_ (some 22) rfl rfl Tryd.func12 (by kernel_rfl) rfl #[.slice A0 l0.length c0] rfl (by (try simp only [List.map_toArray, List.map_cons, List.map_nil]); first | done | rfl | (simp only [List.length_drop, List.length_take]; rfl)) ?_; (with_reducible refine (pick_Text.calls kj4 _ _ l0 t300 _ ?side1 ?side2 A14.out).mono ?_); (case side1 => repeat (first | exact (Kd.C_below HR0.out HB.out) | (with_reducible refine Kd.C_alloc ?_ _) | (with_reducible refine Kd.C_drewN ?_ _) | (with_reducible refine Kd.C_drew ?_))); (case side2 => exact HC0.out); rintro e w19 ⟨rfl, hb⟩; refine ⟨_, rfl, ?_⟩; have n0_ := Aside0.mk (below_step (by repeat (first | (with_reducible first | exact HB.out | apply below_alloc | apply pw_below_drewN | apply below_drew1) | exact HB.out)) hb); clear HB; have HB := n0_; clear n0_; (try clear hb); (try clear hb2); (try clear hk); (try clear hi)) | ((with_reducible refine gate_callee (f := 19) rfl ?_); refine goesL_ (some 23) rfl rfl Tryd.func19 (by kernel_rfl) rfl #[.string t300] rfl (by (try simp only [List.map_toArray, List.map_cons, List.map_nil]); first | done | rfl | (simp only [List.length_drop, List.length_take]; rfl)) ?_; (with_reducible refine (pick_Parse.calls (hL := (by first | exact HL0.out | exact LD.below HL0.out (by repeat (first | (with_reducible first | exact HB.out | apply below_alloc | apply pw_below_drewN | apply below_drew1) | exact HB.out)))) kj4 t300 t301 t302 _ A15.out).mono ?_); rintro e w20 ⟨v303, rfl, ho0, hb⟩; refine ⟨_, rfl, ?_⟩; have n0_ := Aside0.mk (Kd.R_lower ho0 (below_size (by repeat (first | (with_reducible first | exact HB.out | apply below_alloc | apply pw_below_drewN | apply below_drew1) | exact HB.out)))); have n1_ := Aside0.mk (below_step (by repeat (first | (with_reducible first | exact HB.out | apply below_alloc | apply pw_below_drewN | apply below_drew1) | exact HB.out)) hb); clear HB; have HO304 := n0_; have HB := n1_; clear n0_ n1_; (try clear hb); (try clear hb2); (try clear hk); (try clear hi); (try clear ho0); obtain ⟨Ao21, co21, eo21⟩ := Kd.R_slice HO304.out; subst eo21) | (go_at_call 15; (with_reducible refine (ebbtideref05_Same.calls kj4 _ _ t301 _ _ l0 true _ ?side1 ?side2 ?side3 ?side4 A17.out).mono ?_); (case side1 => repeat (first | exact (Kd.R_reads' HO304.out).2.2 | (with_reducible refine Kd.C_alloc ?_ _) | (with_reducible refine Kd.C_drewN ?_ _) | (with_reducible refine Kd.C_drew ?_))); (case side2 => exact (Kd.R_reads' HO304.out).2.1); (case side3 => repeat (first | exact (Kd.C_below HR0.out HB.out) | (with_reducible refine Kd.C_alloc ?_ _) | (with_reducible refine Kd.C_drewN ?_ _) | (with_reducible refine Kd.C_drew ?_))); (case side4 => exact HC0.out); rintro e w' ⟨rfl, ⟨nd, rfl⟩⟩))
                  go_meet
                  case rel => exact ⟨_, H', ⟨by have := HJ4.out; first | omega | exact Nat.le_refl _⟩, ⟨by repeat (first | (with_reducible first | exact HB.out | apply below_alloc | apply pw_below_drewN | apply below_drew1) | exact HB.out)⟩⟩
                · replace c18 := Bool.eq_false_iff.mpr c18
                  subst c18
                  have H1 : (none) = some r := by rw [if_neg (show ¬ (false = true) by decide)] at H; exact H
                  clear H
                  have H := H1
                  clear H1
                  exact absurd H (by simp)
              · rw [if_neg c16] at H
                exact absurd H (by simp)
            · replace c13 := Bool.eq_false_iff.mpr c13
              subst c13
              have H1 : (ebbtidelaw05_PickBack.j1 kj4 a1) = some r := by rw [if_neg (show ¬ (false = true) by decide)] at H; exact H
              clear H
              have H := H1
              clear H1
              have H' := Aside0.mk H
              clear H
              go_wp2
              go_meet
              case rel => exact ⟨_, H', ⟨by have := HJ4.out; first | omega | exact Nat.le_refl _⟩, ⟨by repeat (first | (with_reducible first | exact HB.out | apply below_alloc | apply pw_below_drewN | apply below_drew1) | exact HB.out)⟩⟩
          case rest =>
            clear HC11
            try clear c1
            try clear p2
            try clear c4
            try clear c6
            try clear c8
            try clear c9
            try clear c11
            try clear c12
            try clear c13
            try clear c16
            try clear c16b0
            try clear c16b1
            try clear c18
            try clear c19
            try clear p2
            obtain ⟨kq, HA, HJ10, HB⟩ := hcut
            cases kq with
            | zero => exact absurd HA.out (by simp [ebbtidelaw05_PickBack.j1])
            | succ kj10 =>
              have H := HA.out
              clear HA
              simp only [ebbtidelaw05_PickBack.j1] at H
              replace H := Option.bind_eq_some_iff.mp H
              obtain ⟨⟨t306, t307⟩, A220, H⟩ := H
              replace H : (if t307 = 0 then ((ebbtideref05_Right.f kj10 t306).bind fun t310 => (if t310 = true then ((pick_Text.f kj10 t306).bind fun t311 => (some (t311.toList == a1.toList))) else (none))) else (some ((t306.length : Int) == 0))) = some r := H
              have A22 := Aside0.mk A220
              clear A220
              by_cases c23 : t307 = 0
              · rw [if_pos c23] at H
                have c23b0 : (t307 == 0) = true := beq_iff_eq.mpr c23
                have c23b1 : (t307 != 0) = false := bne_eq_false_iff_eq.mpr c23
                clear c23
                replace H := Option.bind_eq_some_iff.mp H
                obtain ⟨t310, A240, H⟩ := H
                replace H : (if t310 = true then ((pick_Text.f kj10 t306).bind fun t311 => (some (t311.toList == a1.toList))) else (none)) = some r := H
                have A24 := Aside0.mk A240
                clear A240
                by_cases c25 : t310 = true
                · subst c25
                  have H1 : ((pick_Text.f kj10 t306).bind fun t311 => (some (t311.toList == a1.toList))) = some r := by rw [if_pos rfl] at H; exact H
                  clear H
                  have H := H1
                  clear H1
                  replace H := Option.bind_eq_some_iff.mp H
                  obtain ⟨t311, A260, H⟩ := H
                  replace H : (some (t311.toList == a1.toList)) = some r := H
                  have A26 := Aside0.mk A260
                  clear A260
                  obtain rfl := Option.some.inj H
                  go_wp2_with (first | ((with_reducible refine gate_callee (f := 19) rfl ?_); refine goesL_ (some 36) rfl rfl Tryd.func19 (by kernel_rfl) rfl #[.string a1] rfl (by (try simp only [List.map_toArray, List.map_cons, List.map_nil]); first | done | rfl | (simp only [List.length_drop, List.length_take]; rfl)) ?_; (with_reducible refine (pick_Parse.calls (hL := (by first | exact HL0.out | exact LD.below HL0.out (by repeat (first | (with_reducible first | exact HB.out | apply below_alloc | apply pw_below_drewN | apply below_drew1) | exact HB.out)))) kj10 a1 t306 t307 _ A22.out).mono ?_); rintro e w27 ⟨v308, rfl, ho0, hb⟩; refine ⟨_, rfl, ?_⟩; have n0_ := Aside0.mk (Kd.R_lower ho0 (below_size (by repeat (first | (with_reducible first | exact HB.out | apply below_alloc | apply pw_below_drewN | apply below_drew1) | exact HB.out)))); have n1_ := Aside0.mk (below_step (by repeat (first | (with_reducible first | exact HB.out | apply below_alloc | apply pw_below_drewN | apply below_drew1) | exact HB.out)) hb); clear HB; have HO309 := n0_; have HB := n1_; clear n0_ n1_; (try clear hb); (try clear hb2); (try clear hk); (try clear hi); (try clear ho0); obtain ⟨Ao28, co28, eo28⟩ := Kd.R_slice HO309.out; subst eo28) | ((with_reducible refine gate_callee (f := 11) rfl ?_); refine goesL_ (some 45) rfl rfl Tryd.func11 (by kernel_rfl) rfl #[.slice Ao28 t306.length co28] rfl (by (try simp only [List.map_toArray, List.map_cons, List.map_nil]); first | done | rfl | (simp only [List.length_drop, List.length_take]; rfl)) ?_; (with_reducible refine (ebbtideref05_Right.calls kj10 _ _ t306 true _ ?side1 ?side2 A24.out).mono ?_); (case side1 => repeat (first | exact (Kd.R_reads' HO309.out).2.2 | (with_reducible refine Kd.C_alloc ?_ _) | (with_reducible refine Kd.C_drewN ?_ _) | (with_reducible refine Kd.C_drew ?_))); (case side2 => exact (Kd.R_reads' HO309.out).2.1); rintro e w29 ⟨rfl, hb⟩; refine ⟨_, rfl, ?_⟩; have n0_ := Aside0.mk (Kd.R_below (by (with_reducible repeat (first | apply Kd.R_alloc | apply Kd.R_drewN | apply Kd.R_drew)); exact HO309.out) hb); have n1_ := Aside0.mk (below_step (by repeat (first | (with_reducible first | exact HB.out | apply below_alloc | apply pw_below_drewN | apply below_drew1) | exact HB.out)) hb); clear HO309; clear HB; have HO309 := n0_; have HB := n1_; clear n0_ n1_; (try clear hb); (try clear hb2); (try clear hk); (try clear hi)) | (go_at_call 12; (with_reducible refine (pick_Text.calls kj10 _ _ t306 t311 _ ?side1 ?side2 A26.out).mono ?_); (case side1 => repeat (first | exact (Kd.R_reads' HO309.out).2.2 | (with_reducible refine Kd.C_alloc ?_ _) | (with_reducible refine Kd.C_drewN ?_ _) | (with_reducible refine Kd.C_drew ?_))); (case side2 => exact (Kd.R_reads' HO309.out).2.1); rintro e w30 ⟨rfl, hb⟩; have n0_ := Aside0.mk (Kd.R_below (by (with_reducible repeat (first | apply Kd.R_alloc | apply Kd.R_drewN | apply Kd.R_drew)); exact HO309.out) hb); have n1_ := Aside0.mk (below_step (by repeat (first | (with_reducible first | exact HB.out | apply below_alloc | apply pw_below_drewN | apply below_drew1) | exact HB.out)) hb); clear HO309; clear HB; have HO309 := n0_; have HB := n1_; clear n0_ n1_; (try clear hb); (try clear hb2); (try clear hk); (try clear hi)))
                  go_ret
                  exact ⟨by first | rfl | (simp [errW_none, errW_some] <;> rfl) | (simp [*, errW_none, errW_some] <;> rfl), by repeat (first | (with_reducible first | exact HB.out | apply below_alloc | apply pw_below_drewN | apply below_drew1) | exact HB.out)⟩
                · replace c25 := Bool.eq_false_iff.mpr c25
                  subst c25
                  have H1 : (none) = some r := by rw [if_neg (show ¬ (false = true) by decide)] at H; exact H
                  clear H
                  have H := H1
                  clear H1
                  exact absurd H (by simp)
              · rw [if_neg c23] at H
                have c23b0 : (t307 == 0) = false := beq_eq_false_iff_ne.mpr c23
                have c23b1 : (t307 != 0) = true := bne_iff_ne.mpr c23
                obtain rfl := Option.some.inj H
                go_wp2_with (first | ((with_reducible refine gate_callee (f := 19) rfl ?_); refine goesL_ (some 36) rfl rfl Tryd.func19 (by kernel_rfl) rfl #[.string a1] rfl (by (try simp only [List.map_toArray, List.map_cons, List.map_nil]); first | done | rfl | (simp only [List.length_drop, List.length_take]; rfl)) ?_; (with_reducible refine (pick_Parse.calls (hL := (by first | exact HL0.out | exact LD.below HL0.out (by repeat (first | (with_reducible first | exact HB.out | apply below_alloc | apply pw_below_drewN | apply below_drew1) | exact HB.out)))) kj10 a1 t306 t307 _ A22.out).mono ?_); rintro e w31 ⟨v308, rfl, ho0, hb⟩; refine ⟨_, rfl, ?_⟩; have n0_ := Aside0.mk (Kd.R_lower ho0 (below_size (by repeat (first | (with_reducible first | exact HB.out | apply below_alloc | apply pw_below_drewN | apply below_drew1) | exact HB.out)))); have n1_ := Aside0.mk (below_step (by repeat (first | (with_reducible first | exact HB.out | apply below_alloc | apply pw_below_drewN | apply below_drew1) | exact HB.out)) hb); clear HB; have HO309 := n0_; have HB := n1_; clear n0_ n1_; (try clear hb); (try clear hb2); (try clear hk); (try clear hi); (try clear ho0); obtain ⟨Ao32, co32, eo32⟩ := Kd.R_slice HO309.out; subst eo32))
                go_ret
                exact ⟨by first | rfl | (simp [errW_none, errW_some] <;> rfl) | (simp [*, errW_none, errW_some] <;> rfl), by repeat (first | (with_reducible first | exact HB.out | apply below_alloc | apply pw_below_drewN | apply below_drew1) | exact HB.out)⟩
  · replace c4 := Bool.eq_false_iff.mpr c4
    subst c4
    have H1 : (none) = some r := by rw [if_neg (show ¬ (false = true) by decide)] at H; exact H
    clear H
    have H := H1
    clear H1
    exact absurd H (by simp)

/-- THE ONE PURE STATEMENT of ebbtidelaw05_PickBack. -/
def ebbtidelaw05_PickBack.Pure : Prop := ∀ (l0 : List (S39)) (a1 : ByteArray), (l0.length ≤ maxLen ∧ ∀ x0_ ∈ l0, Q39 x0_) → l0.length * 40 ≤ 140737488351232 → (a1.size ≤ 140737488351232) → ∃ k, ebbtidelaw05_PickBack.f k l0 a1 = some true
theorem ebbtidelaw05_PickBack.walk (P : ebbtidelaw05_PickBack.Pure) (l0 : List (S39)) (a1 : ByteArray) (w : World) (hL : LD w) (A0 : Option Addr) (c0 : Nat) (hr0 : Kd.C k39 w A0 l0.length l0) (hc0 : l0.length ≤ c0) (q0 : l0.length ≤ maxLen ∧ ∀ x0_ ∈ l0, Q39 x0_) (y0 : l0.length * 40 ≤ 140737488351232) (q1 : a1.size ≤ 140737488351232) :
    Calls Tryd.prog 6 #[.slice A0 l0.length c0, .string a1] w fun e w' => e = .returned (.bool true) ∧ Below w.heap.size w w' := by
  obtain ⟨k, h⟩ := P l0 a1 q0 y0 q1
  refine (ebbtidelaw05_PickBack.calls (hL := hL) k A0 c0 l0 a1 true w hr0 hc0 h).mono ?_
  rintro e w' ⟨rfl, hd⟩
  exact ⟨rfl, hd⟩

end Go.Proofs.YtdmobcaidjilcaaDoor.X
