/- Printed by a program of this session's own: what functions of the program compute, and that the machine computes it. -/
import Derived.Test.YthgoegjkiofbkaaXx0
import Derived.Test.YthgoegjkiofbkaaXx3
import Derived.Test.YthgoegjkiofbkaaXx5
import Derived.Test.YthgoegjkiofbkaaXx6
import Derived.Test.YthgoegjkiofbkaaXx7
import Derived.Test.YthgoegjkiofbkaaXx8
import Derived.Test.YthgoegjkiofbkaaXx9
namespace Go.Proofs.Ythgoegjkiofbkaa.X
open Go.RowKit Go.Proofs.YthgoegjkiofbkaaW.PrintWords Go.Proofs.YthgoegjkiofbkaaW.PrintLast Go.Proofs.YthgoegjkiofbkaaW.PrintMore
attribute [local go_sem] max2_int min2_int max_two min_two max_three min_three max_four min_four   -- for this text's walks alone
set_option linter.unusedVariables false
set_option linter.unusedSimpArgs false

/-! ### ebbtidelaw15_PinAdds: function 3 -/
def ebbtidelaw15_PinAdds.j0 : Nat → List (S35) → List (S35) → Int → Bool → Option (Bool)
  | 0, _, _, _, _ => none
  | k + 1, x0, x1, x2, x25 => if x25 = true then (some true) else ((some (([] : List (S35)) : List (S35))).bind fun y249 => (if y249.length + x0.length < 8796093022208 then ((some (y249 ++ x0 : List (S35))).bind fun y252 => ((pin_Add.f k y252 x1).bind fun bt255 => ((ebbtideref15_Add.f k x0 x1).bind fun bt259 => ((pin_Drop.f y252 x2).bind fun bt263 => ((ebbtideref15_Drop.f k x0 x2).bind fun bt267 => ((ebbtideref15_Same.f k bt255.1 bt259.1).bind fun t271 => (if t271 = true then (if bt255.2 = bt259.2 then ((ebbtideref15_Same.f k bt263.1 bt267.1).bind fun t272 => (if t272 = true then (if bt263.2 = bt267.2 then ((ebbtideref15_Same.f k y252 x0).bind fun t273 => (some t273)) else (none)) else (none))) else (none)) else (none)))))))) else (none)))
def ebbtidelaw15_PinAdds.f (k : Nat) (l0 : List (S35)) (l1 : List (S35)) (a2 : Int) : Option (Bool) := (ebbtidelaw15_alive.f k).bind fun t248 => (if t248 = true then (if (l0.length : Int) > 100 then (ebbtidelaw15_PinAdds.j0 k l0 l1 a2 true) else (ebbtidelaw15_PinAdds.j0 k l0 l1 a2 (decide ((l1.length : Int) > 100)))) else (none))
theorem ebbtidelaw15_PinAdds.mono_l : ∀ k, (∀ y0 y1 y2 y3, LeO (ebbtidelaw15_PinAdds.j0 k y0 y1 y2 y3) (ebbtidelaw15_PinAdds.j0 (k + 1) y0 y1 y2 y3))
  | 0 => fun _ _ _ _ r h => by simp [ebbtidelaw15_PinAdds.j0] at h
  | k + 1 => by
    have ih0 := ebbtidelaw15_PinAdds.mono_l k
    · intro y0 y1 y2 y3
      unfold ebbtidelaw15_PinAdds.j0
      repeat' first
      | (with_reducible exact ih0 _ _ _ _)
      | (with_reducible exact ebbtidelaw15_alive.mono _)
      | (with_reducible exact ebbtideref15_Add.mono _ _ _)
      | (with_reducible exact ebbtideref15_Drop.mono _ _ _)
      | (with_reducible exact ebbtideref15_Same.mono _ _ _)
      | (with_reducible exact pin_Add.mono _ _ _)
      | (with_reducible exact LeO.refl _)
      | (with_reducible exact LeO.none _)
      | (with_reducible refine LeO.ite ?_ ?_)
      | (with_reducible refine LeO.bind ?_ (fun _ => ?_))
      | exact ih0 _ _ _ _
      | exact ebbtidelaw15_alive.mono _
      | exact ebbtideref15_Add.mono _ _ _
      | exact ebbtideref15_Drop.mono _ _ _
      | exact ebbtideref15_Same.mono _ _ _
      | exact pin_Add.mono _ _ _
      | exact LeO.none _
      | refine LeO.ite ?_ ?_
      | refine LeO.bind ?_ (fun _ => ?_)
theorem ebbtidelaw15_PinAdds.mono : ∀ a0 a1 a2 k, LeO (ebbtidelaw15_PinAdds.f k a0 a1 a2) (ebbtidelaw15_PinAdds.f (k + 1) a0 a1 a2) := by
  intro a0 a1 a2 k
  have ih0 := ebbtidelaw15_PinAdds.mono_l k
  unfold ebbtidelaw15_PinAdds.f
  repeat' first
      | (with_reducible exact ih0 _ _ _ _)
      | (with_reducible exact ebbtidelaw15_alive.mono _)
      | (with_reducible exact ebbtideref15_Add.mono _ _ _)
      | (with_reducible exact ebbtideref15_Drop.mono _ _ _)
      | (with_reducible exact ebbtideref15_Same.mono _ _ _)
      | (with_reducible exact pin_Add.mono _ _ _)
      | (with_reducible exact LeO.refl _)
      | (with_reducible exact LeO.none _)
      | (with_reducible refine LeO.ite ?_ ?_)
      | (with_reducible refine LeO.bind ?_ (fun _ => ?_))
      | exact ih0 _ _ _ _
      | exact ebbtidelaw15_alive.mono _
      | exact ebbtideref15_Add.mono _ _ _
      | exact ebbtideref15_Drop.mono _ _ _
      | exact ebbtideref15_Same.mono _ _ _
      | exact pin_Add.mono _ _ _
      | exact LeO.none _
      | refine LeO.ite ?_ ?_
      | refine LeO.bind ?_ (fun _ => ?_)
set_option maxHeartbeats 8000000 in
set_option maxRecDepth 100000 in
theorem ebbtidelaw15_PinAdds.calls (k : Nat) (A0 : Option Addr) (c0 : Nat) (l0 : List (S35)) (A1 : Option Addr) (c1 : Nat) (l1 : List (S35)) (a2 : Int) (r : Bool) (w : World) (hr0 : Kd.C k35 w A0 l0.length l0) (hc0 : l0.length ≤ c0) (hr1 : Kd.C k35 w A1 l1.length l1) (hc1 : l1.length ≤ c1) (h : ebbtidelaw15_PinAdds.f k l0 l1 a2 = some r) :
    Calls Try.prog 3 #[.slice A0 l0.length c0, .slice A1 l1.length c1, .int .i64 a2] w fun e w' => e = .returned (.bool r) ∧ Below w.heap.size w w' := by
  have HR0 := Aside0.mk hr0
  have HC0 := Aside0.mk hc0
  clear hr0 hc0
  have HR1 := Aside0.mk hr1
  have HC1 := Aside0.mk hc1
  clear hr1 hc1
  have HB := Aside0.mk (Below.refl w.heap.size w)
  have H : ((ebbtidelaw15_alive.f k).bind fun t248 => (if t248 = true then (if (l0.length : Int) > 100 then (ebbtidelaw15_PinAdds.j0 k l0 l1 a2 true) else (ebbtidelaw15_PinAdds.j0 k l0 l1 a2 (decide ((l1.length : Int) > 100)))) else (none))) = some r := h
  clear h
  replace H := Option.bind_eq_some_iff.mp H
  obtain ⟨t248, A40, H⟩ := H
  replace H : (if t248 = true then (if (l0.length : Int) > 100 then (ebbtidelaw15_PinAdds.j0 k l0 l1 a2 true) else (ebbtidelaw15_PinAdds.j0 k l0 l1 a2 (decide ((l1.length : Int) > 100)))) else (none)) = some r := H
  have A4 := Aside0.mk A40
  clear A40
  by_cases c5 : t248 = true
  · subst c5
    have H1 : (if (l0.length : Int) > 100 then (ebbtidelaw15_PinAdds.j0 k l0 l1 a2 true) else (ebbtidelaw15_PinAdds.j0 k l0 l1 a2 (decide ((l1.length : Int) > 100)))) = some r := by rw [if_pos rfl] at H; exact H
    clear H
    have H := H1
    clear H1
    have HC6 := Aside0.mk H
    clear H
    go_enter Try.func3, Try.ntmps3
    go_upto_region 3 with (first | ((with_reducible refine gate_callee (f := 7) rfl ?_); refine goesL_ (some 16) rfl rfl Try.func7 (by kernel_rfl) rfl #[] rfl (by (try simp only [List.map_toArray, List.map_cons, List.map_nil]); first | done | rfl | (simp only [List.length_drop, List.length_take]; rfl)) ?_; (with_reducible refine (ebbtidelaw15_alive.calls k  true _ A4.out).mono ?_); rintro e w7 ⟨rfl, hb⟩; refine ⟨_, rfl, ?_⟩; have n0_ := Aside0.mk (below_step (by repeat (first | (with_reducible first | exact HB.out | apply below_alloc | apply pw_below_drewN | apply below_drew1) | exact HB.out)) hb); clear HB; have HB := n0_; clear n0_; (try clear hb); (try clear hb2); (try clear hk); (try clear hi)))
    (try simp only [Act.put, List.setIfInBounds_toArray, List.set_cons_zero, List.set_cons_succ])
    go_cut [25] (fun v25 wc => ∃ (kq : Nat) (x25_5 : Bool), v25 = .bool x25_5 ∧ Aside0 (ebbtidelaw15_PinAdds.j0 kq l0 l1 a2 x25_5 = some r) ∧ Aside0 (kq ≤ k) ∧ Aside0 (Below w.heap.size w wc))
    case first =>
      have H := HC6.out
      clear HC6
      by_cases c8 : (l0.length : Int) > 100
      · rw [if_pos c8] at H
        have c8b0 : decide (100 < (l0.length : Int)) = true := decide_eq_true c8
        have c8b1 : decide (100 < l0.length) = true := decide_eq_true (by omega)
        clear c8
        (first | rw [c8b0] | (simp only [i64_w, i32_w]; rw [c8b0]) | skip)
        have H' := Aside0.mk H
        clear H
        go_wp2
        go_meet
        case rel => exact ⟨_, (true), (by first | rfl | (simp; done) | (simp [*]; done)), H', ⟨by first | omega | exact Nat.le_refl _⟩, ⟨by repeat (first | (with_reducible first | exact HB.out | apply below_alloc | apply pw_below_drewN | apply below_drew1) | exact HB.out)⟩⟩
      · rw [if_neg c8] at H
        have c8b0 : decide (100 < (l0.length : Int)) = false := decide_eq_false c8
        have c8b1 : decide (100 < l0.length) = false := decide_eq_false (by omega)
        clear c8
        (first | rw [c8b0] | (simp only [i64_w, i32_w]; rw [c8b0]) | skip)
        have H' := Aside0.mk H
        clear H
        go_wp2
        go_meet
        case rel => exact ⟨_, (decide ((l1.length : Int) > 100)), (by first | rfl | (simp; done) | (simp [*]; done)), H', ⟨by first | omega | exact Nat.le_refl _⟩, ⟨by repeat (first | (with_reducible first | exact HB.out | apply below_alloc | apply pw_below_drewN | apply below_drew1) | exact HB.out)⟩⟩
    case rest =>
      clear HC6
      try clear c1
      try clear p2
      try clear c3
      try clear c5
      try clear c7
      try clear c8
      try clear c8b0
      try clear c8b1
      obtain ⟨kq, x25_5, rfl, HA, HJ5, HB⟩ := hcut
      cases kq with
      | zero => exact absurd HA.out (by simp [ebbtidelaw15_PinAdds.j0])
      | succ kj5 =>
        have H := HA.out
        clear HA
        simp only [ebbtidelaw15_PinAdds.j0] at H
        by_cases c9 : x25_5 = true
        · subst c9
          have H1 : (some true) = some r := by rw [if_pos rfl] at H; exact H
          clear H
          have H := H1
          clear H1
          obtain rfl := Option.some.inj H
          go_wp2
          go_ret
          exact ⟨by first | rfl | (simp [errW_none, errW_some] <;> rfl) | (simp [*, errW_none, errW_some] <;> rfl), by repeat (first | (with_reducible first | exact HB.out | apply below_alloc | apply pw_below_drewN | apply below_drew1) | exact HB.out)⟩
        · replace c9 := Bool.eq_false_iff.mpr c9
          subst c9
          have H1 : ((some (([] : List (S35)) : List (S35))).bind fun y249 => (if y249.length + l0.length < 8796093022208 then ((some (y249 ++ l0 : List (S35))).bind fun y252 => ((pin_Add.f kj5 y252 l1).bind fun bt255 => ((ebbtideref15_Add.f kj5 l0 l1).bind fun bt259 => ((pin_Drop.f y252 a2).bind fun bt263 => ((ebbtideref15_Drop.f kj5 l0 a2).bind fun bt267 => ((ebbtideref15_Same.f kj5 bt255.1 bt259.1).bind fun t271 => (if t271 = true then (if bt255.2 = bt259.2 then ((ebbtideref15_Same.f kj5 bt263.1 bt267.1).bind fun t272 => (if t272 = true then (if bt263.2 = bt267.2 then ((ebbtideref15_Same.f kj5 y252 l0).bind fun t273 => (some t273)) else (none)) else (none))) else (none)) else (none)))))))) else (none))) = some r := by rw [if_neg (show ¬ (false = true) by decide)] at H; exact H
          clear H
          have H := H1
          clear H1
          obtain ⟨y249, hy249⟩ : ∃ y_ : List (S35), y_ = (([] : List (S35))) := ⟨_, rfl⟩
          replace H : (if y249.length + l0.length < 8796093022208 then ((some (y249 ++ l0 : List (S35))).bind fun y252 => ((pin_Add.f kj5 y252 l1).bind fun bt255 => ((ebbtideref15_Add.f kj5 l0 l1).bind fun bt259 => ((pin_Drop.f y252 a2).bind fun bt263 => ((ebbtideref15_Drop.f kj5 l0 a2).bind fun bt267 => ((ebbtideref15_Same.f kj5 bt255.1 bt259.1).bind fun t271 => (if t271 = true then (if bt255.2 = bt259.2 then ((ebbtideref15_Same.f kj5 bt263.1 bt267.1).bind fun t272 => (if t272 = true then (if bt263.2 = bt267.2 then ((ebbtideref15_Same.f kj5 y252 l0).bind fun t273 => (some t273)) else (none)) else (none))) else (none)) else (none)))))))) else (none)) = some r := by first | (rw [hy249]; with_reducible exact H) | (have H2_ := (Option.bind_some _ _).symm.trans H; rw [hy249]; with_reducible exact H2_) | (have H2_ := (Option.bind_some _ _).symm.trans H; with_reducible exact H2_) | with_reducible exact H | (rw [hy249]; exact H) | exact H
          have Ny249 := Aside0.mk hy249
          clear hy249
          by_cases c10 : y249.length + l0.length < 8796093022208
          · rw [if_pos c10] at H
            have LMc10 := Aside0.mk c10
            clear c10
            obtain ⟨y252, hy252⟩ : ∃ y_ : List (S35), y_ = (y249 ++ l0) := ⟨_, rfl⟩
            replace H : ((pin_Add.f kj5 y252 l1).bind fun bt255 => ((ebbtideref15_Add.f kj5 l0 l1).bind fun bt259 => ((pin_Drop.f y252 a2).bind fun bt263 => ((ebbtideref15_Drop.f kj5 l0 a2).bind fun bt267 => ((ebbtideref15_Same.f kj5 bt255.1 bt259.1).bind fun t271 => (if t271 = true then (if bt255.2 = bt259.2 then ((ebbtideref15_Same.f kj5 bt263.1 bt267.1).bind fun t272 => (if t272 = true then (if bt263.2 = bt267.2 then ((ebbtideref15_Same.f kj5 y252 l0).bind fun t273 => (some t273)) else (none)) else (none))) else (none)) else (none))))))) = some r := by first | (rw [hy252]; with_reducible exact H) | (have H2_ := (Option.bind_some _ _).symm.trans H; rw [hy252]; with_reducible exact H2_) | (have H2_ := (Option.bind_some _ _).symm.trans H; with_reducible exact H2_) | with_reducible exact H | (rw [hy252]; exact H) | exact H
            have Ny252 := Aside0.mk hy252
            clear hy252
            replace H := Option.bind_eq_some_iff.mp H
            obtain ⟨⟨t255, t256⟩, A110, H⟩ := H
            replace H : ((ebbtideref15_Add.f kj5 l0 l1).bind fun bt259 => ((pin_Drop.f y252 a2).bind fun bt263 => ((ebbtideref15_Drop.f kj5 l0 a2).bind fun bt267 => ((ebbtideref15_Same.f kj5 t255 bt259.1).bind fun t271 => (if t271 = true then (if t256 = bt259.2 then ((ebbtideref15_Same.f kj5 bt263.1 bt267.1).bind fun t272 => (if t272 = true then (if bt263.2 = bt267.2 then ((ebbtideref15_Same.f kj5 y252 l0).bind fun t273 => (some t273)) else (none)) else (none))) else (none)) else (none)))))) = some r := H
            have A11 := Aside0.mk A110
            clear A110
            replace H := Option.bind_eq_some_iff.mp H
            obtain ⟨⟨t259, t260⟩, A120, H⟩ := H
            replace H : ((pin_Drop.f y252 a2).bind fun bt263 => ((ebbtideref15_Drop.f kj5 l0 a2).bind fun bt267 => ((ebbtideref15_Same.f kj5 t255 t259).bind fun t271 => (if t271 = true then (if t256 = t260 then ((ebbtideref15_Same.f kj5 bt263.1 bt267.1).bind fun t272 => (if t272 = true then (if bt263.2 = bt267.2 then ((ebbtideref15_Same.f kj5 y252 l0).bind fun t273 => (some t273)) else (none)) else (none))) else (none)) else (none))))) = some r := H
            have A12 := Aside0.mk A120
            clear A120
            replace H := Option.bind_eq_some_iff.mp H
            obtain ⟨⟨t263, t264⟩, A130, H⟩ := H
            replace H : ((ebbtideref15_Drop.f kj5 l0 a2).bind fun bt267 => ((ebbtideref15_Same.f kj5 t255 t259).bind fun t271 => (if t271 = true then (if t256 = t260 then ((ebbtideref15_Same.f kj5 t263 bt267.1).bind fun t272 => (if t272 = true then (if t264 = bt267.2 then ((ebbtideref15_Same.f kj5 y252 l0).bind fun t273 => (some t273)) else (none)) else (none))) else (none)) else (none)))) = some r := H
            have A13 := Aside0.mk A130
            clear A130
            replace H := Option.bind_eq_some_iff.mp H
            obtain ⟨⟨t267, t268⟩, A140, H⟩ := H
            replace H : ((ebbtideref15_Same.f kj5 t255 t259).bind fun t271 => (if t271 = true then (if t256 = t260 then ((ebbtideref15_Same.f kj5 t263 t267).bind fun t272 => (if t272 = true then (if t264 = t268 then ((ebbtideref15_Same.f kj5 y252 l0).bind fun t273 => (some t273)) else (none)) else (none))) else (none)) else (none))) = some r := H
            have A14 := Aside0.mk A140
            clear A140
            replace H := Option.bind_eq_some_iff.mp H
            obtain ⟨t271, A150, H⟩ := H
            replace H : (if t271 = true then (if t256 = t260 then ((ebbtideref15_Same.f kj5 t263 t267).bind fun t272 => (if t272 = true then (if t264 = t268 then ((ebbtideref15_Same.f kj5 y252 l0).bind fun t273 => (some t273)) else (none)) else (none))) else (none)) else (none)) = some r := H
            have A15 := Aside0.mk A150
            clear A150
            by_cases c16 : t271 = true
            · subst c16
              have H1 : (if t256 = t260 then ((ebbtideref15_Same.f kj5 t263 t267).bind fun t272 => (if t272 = true then (if t264 = t268 then ((ebbtideref15_Same.f kj5 y252 l0).bind fun t273 => (some t273)) else (none)) else (none))) else (none)) = some r := by rw [if_pos rfl] at H; exact H
              clear H
              have H := H1
              clear H1
              by_cases c17 : t256 = t260
              · rw [if_pos c17] at H
                have c17b0 : (t256 == t260) = true := beq_iff_eq.mpr c17
                have c17b1 : (t256 != t260) = false := bne_eq_false_iff_eq.mpr c17
                clear c17
                replace H := Option.bind_eq_some_iff.mp H
                obtain ⟨t272, A180, H⟩ := H
                replace H : (if t272 = true then (if t264 = t268 then ((ebbtideref15_Same.f kj5 y252 l0).bind fun t273 => (some t273)) else (none)) else (none)) = some r := H
                have A18 := Aside0.mk A180
                clear A180
                by_cases c19 : t272 = true
                · subst c19
                  have H1 : (if t264 = t268 then ((ebbtideref15_Same.f kj5 y252 l0).bind fun t273 => (some t273)) else (none)) = some r := by rw [if_pos rfl] at H; exact H
                  clear H
                  have H := H1
                  clear H1
                  by_cases c20 : t264 = t268
                  · rw [if_pos c20] at H
                    have c20b0 : (t264 == t268) = true := beq_iff_eq.mpr c20
                    have c20b1 : (t264 != t268) = false := bne_eq_false_iff_eq.mpr c20
                    clear c20
                    replace H := Option.bind_eq_some_iff.mp H
                    obtain ⟨t273, A210, H⟩ := H
                    replace H : (some t273) = some r := H
                    have A21 := Aside0.mk A210
                    clear A210
                    obtain rfl := Option.some.inj H
                    go_wp2_with (first | ((with_reducible refine gate_dst (N := 26) rfl ?_); (try (refine gate_guard (by rfl) ?_; dsimp only)); refine Kd.R_lit k35 _ 35 ?hg (N := 26) ?hd (xs := ([] : List (S35))) (inner := []) (ok := fun _ => True) (okp := fun _ => True) ?hr ?hp (fun _ hk => hk) trivial (Below.refl _ _) (Nat.le_refl _) (by simp) ?_; (case hd => rfl); (case hg => rfl); (case hr => first | (go_simp; done) | (go_simp; rfl)); (case hp => exact (Reps.none _ _)); intro v250 w22 ho23 hb hg_ hnew_; clear hg_ hnew_; (first | rw [← Ny249.out] at ho23 | (simp only [Int.reduceToNat] at ho23; rw [← Ny249.out] at ho23)); have n0_ := Aside0.mk (Kd.R_lower ho23 (below_size (by repeat (first | (with_reducible first | exact HB.out | apply below_alloc | apply pw_below_drewN | apply below_drew1) | exact HB.out)))); have n1_ := Aside0.mk (below_step (by repeat (first | (with_reducible first | exact HB.out | apply below_alloc | apply pw_below_drewN | apply below_drew1) | exact HB.out)) hb); clear HB; have HO251 := n0_; have HB := n1_; clear n0_ n1_; clear hb ho23) | ((with_reducible refine gate_builtin (b := .append) (xs := #[.tmp 26, .tmp 27]) rfl ?_); (try (refine gate_guard (by rfl) ?_; dsimp only)); at_builtin; refine Kd.R_append_rows k35 (w0 := w) w.heap.size rfl (.tmp 26) (.tmp 27) 22 35 (.agg #[(.int .i64 0), (.int .i64 0)]) 16 rfl Try.underlying22 info35 rfl (by decide) (by omega) v250 y249 l0 _ _ _ (fun _ => True) (fun _ => False) rfl rfl ?aO ?aR (fun _ _ h => h) (fun _ h => h.elim) ?aF ?aB ?aS ?aL ?_; (case aR => repeat (first | exact (Kd.C_below HR0.out HB.out) | (with_reducible refine Kd.C_alloc ?_ _) | (with_reducible refine Kd.C_drewN ?_ _) | (with_reducible refine Kd.C_drew ?_))); (case aB => exact (by repeat (first | (with_reducible first | exact HB.out | apply below_alloc | apply pw_below_drewN | apply below_drew1) | exact HB.out))); (case aF => exact (fun _ _ => trivial)); (case aO => exact (by (with_reducible repeat (first | apply Kd.R_alloc | apply Kd.R_drewN | apply Kd.R_drew)); exact HO251.out)); (case aS => exact (below_size (by repeat (first | (with_reducible first | exact HB.out | apply below_alloc | apply pw_below_drewN | apply below_drew1) | exact HB.out)))); (case aL => have := LMc10.out; omega); intro v253 w24 ho hb hg hat; rw [← Ny252.out] at ho; have n0_ := Aside0.mk (hb); have n1_ := Aside0.mk (ho); clear HB; clear HO251; have HB := n0_; have HO254 := n1_; clear n0_ n1_; clear ho hb hg hat; obtain ⟨Ao25, co25, eo25⟩ := Kd.R_slice HO254.out; subst eo25) | ((with_reducible refine gate_callee (f := 8) rfl ?_); refine goesL_ (some 32) rfl rfl Try.func8 (by kernel_rfl) rfl #[.slice Ao25 y252.length co25, .slice A1 l1.length c1] rfl (by (try simp only [List.map_toArray, List.map_cons, List.map_nil]); first | done | rfl | (simp only [List.length_drop, List.length_take]; rfl)) ?_; (with_reducible refine (pin_Add.calls kj5 _ _ y252 _ _ l1 t255 t256 _ ?side1 ?side2 ?side3 ?side4 A11.out).mono ?_); (case side1 => repeat (first | exact (Kd.R_reads' HO254.out).2.2 | (with_reducible refine Kd.C_alloc ?_ _) | (with_reducible refine Kd.C_drewN ?_ _) | (with_reducible refine Kd.C_drew ?_))); (case side2 => exact (Kd.R_reads' HO254.out).2.1); (case side3 => repeat (first | exact (Kd.C_below HR1.out HB.out) | (with_reducible refine Kd.C_alloc ?_ _) | (with_reducible refine Kd.C_drewN ?_ _) | (with_reducible refine Kd.C_drew ?_))); (case side4 => exact HC1.out); rintro e w26 ⟨v257, rfl, ho0, hb⟩; refine ⟨_, rfl, ?_⟩; have n0_ := Aside0.mk (Kd.R_elder' (by (with_reducible repeat (first | apply Kd.R_alloc | apply Kd.R_drewN | apply Kd.R_drew)); exact HO254.out) (Kd.R_base ho0) hb); have n1_ := Aside0.mk (Kd.R_lower (Kd.R_new' ho0 (Kd.R_lt (by (with_reducible repeat (first | apply Kd.R_alloc | apply Kd.R_drewN | apply Kd.R_drew)); exact HO254.out))) (below_size (by repeat (first | (with_reducible first | exact HB.out | apply below_alloc | apply pw_below_drewN | apply below_drew1) | exact HB.out)))); have n2_ := Aside0.mk (below_step (by repeat (first | (with_reducible first | exact HB.out | apply below_alloc | apply pw_below_drewN | apply below_drew1) | exact HB.out)) hb); clear HO254; clear HB; have HO254 := n0_; have HO258 := n1_; have HB := n2_; clear n0_ n1_ n2_; (try clear hb); (try clear hb2); (try clear hk); (try clear hi); (try clear ho0)) | ((with_reducible refine gate_callee (f := 9) rfl ?_); refine goesL_ (some 38) rfl rfl Try.func9 (by kernel_rfl) rfl #[.slice A0 l0.length c0, .slice A1 l1.length c1] rfl (by (try simp only [List.map_toArray, List.map_cons, List.map_nil]); first | done | rfl | (simp only [List.length_drop, List.length_take]; rfl)) ?_; (with_reducible refine (ebbtideref15_Add.calls kj5 _ _ l0 _ _ l1 t259 t260 _ ?side1 ?side2 ?side3 ?side4 A12.out).mono ?_); (case side1 => repeat (first | exact (Kd.C_below HR0.out HB.out) | (with_reducible refine Kd.C_alloc ?_ _) | (with_reducible refine Kd.C_drewN ?_ _) | (with_reducible refine Kd.C_drew ?_))); (case side2 => exact HC0.out); (case side3 => repeat (first | exact (Kd.C_below HR1.out HB.out) | (with_reducible refine Kd.C_alloc ?_ _) | (with_reducible refine Kd.C_drewN ?_ _) | (with_reducible refine Kd.C_drew ?_))); (case side4 => exact HC1.out); rintro e w27 ⟨v261, rfl, ho0, hb⟩; refine ⟨_, rfl, ?_⟩; have n0_ := Aside0.mk (Kd.R_elder' (by (with_reducible repeat (first | apply Kd.R_alloc | apply Kd.R_drewN | apply Kd.R_drew)); exact HO254.out) (Kd.R_base ho0) hb); have n1_ := Aside0.mk (Kd.R_elder' (by (with_reducible repeat (first | apply Kd.R_alloc | apply Kd.R_drewN | apply Kd.R_drew)); exact HO258.out) (Kd.R_base ho0) hb); have n2_ := Aside0.mk (Kd.R_lower (Kd.R_new' (Kd.R_new' ho0 (Kd.R_lt (by (with_reducible repeat (first | apply Kd.R_alloc | apply Kd.R_drewN | apply Kd.R_drew)); exact HO254.out))) (Kd.R_lt (by (with_reducible repeat (first | apply Kd.R_alloc | apply Kd.R_drewN | apply Kd.R_drew)); exact HO258.out))) (below_size (by repeat (first | (with_reducible first | exact HB.out | apply below_alloc | apply pw_below_drewN | apply below_drew1) | exact HB.out)))); have n3_ := Aside0.mk (below_step (by repeat (first | (with_reducible first | exact HB.out | apply below_alloc | apply pw_below_drewN | apply below_drew1) | exact HB.out)) hb); clear HO254; clear HO258; clear HB; have HO254 := n0_; have HO258 := n1_; have HO262 := n2_; have HB := n3_; clear n0_ n1_ n2_ n3_; (try clear hb); (try clear hb2); (try clear hk); (try clear hi); (try clear ho0)) | ((with_reducible refine gate_callee (f := 10) rfl ?_); refine goesL_ (some 44) rfl rfl Try.func10 (by kernel_rfl) rfl #[.slice Ao25 y252.length co25, .int .i64 a2] rfl (by (try simp only [List.map_toArray, List.map_cons, List.map_nil]); first | done | rfl | (simp only [List.length_drop, List.length_take]; rfl)) ?_; (with_reducible refine (pin_Drop.calls _ _ y252 a2 t263 t264 _ ?side1 ?side2 A13.out).mono ?_); (case side1 => repeat (first | exact (Kd.R_reads' HO254.out).2.2 | (with_reducible refine Kd.C_alloc ?_ _) | (with_reducible refine Kd.C_drewN ?_ _) | (with_reducible refine Kd.C_drew ?_))); (case side2 => exact (Kd.R_reads' HO254.out).2.1); rintro e w28 ⟨v265, rfl, ho0, hb⟩; refine ⟨_, rfl, ?_⟩; have n0_ := Aside0.mk (Kd.R_elder' (by (with_reducible repeat (first | apply Kd.R_alloc | apply Kd.R_drewN | apply Kd.R_drew)); exact HO254.out) (Kd.R_base ho0) hb); have n1_ := Aside0.mk (Kd.R_elder' (by (with_reducible repeat (first | apply Kd.R_alloc | apply Kd.R_drewN | apply Kd.R_drew)); exact HO258.out) (Kd.R_base ho0) hb); have n2_ := Aside0.mk (Kd.R_elder' (by (with_reducible repeat (first | apply Kd.R_alloc | apply Kd.R_drewN | apply Kd.R_drew)); exact HO262.out) (Kd.R_base ho0) hb); have n3_ := Aside0.mk (Kd.R_lower (Kd.R_new' (Kd.R_new' (Kd.R_new' ho0 (Kd.R_lt (by (with_reducible repeat (first | apply Kd.R_alloc | apply Kd.R_drewN | apply Kd.R_drew)); exact HO254.out))) (Kd.R_lt (by (with_reducible repeat (first | apply Kd.R_alloc | apply Kd.R_drewN | apply Kd.R_drew)); exact HO258.out))) (Kd.R_lt (by (with_reducible repeat (first | apply Kd.R_alloc | apply Kd.R_drewN | apply Kd.R_drew)); exact HO262.out))) (below_size (by repeat (first | (with_reducible first | exact HB.out | apply below_alloc | apply pw_below_drewN | apply below_drew1) | exact HB.out)))); have n4_ := Aside0.mk (below_step (by repeat (first | (with_reducible first | exact HB.out | apply below_alloc | apply pw_below_drewN | apply below_drew1) | exact HB.out)) hb); clear HO254; clear HO258; clear HO262; clear HB; have HO254 := n0_; have HO258 := n1_; have HO262 := n2_; have HO266 := n3_; have HB := n4_; clear n0_ n1_ n2_ n3_ n4_; (try clear hb); (try clear hb2); (try clear hk); (try clear hi); (try clear ho0)) | ((with_reducible refine gate_callee (f := 11) rfl ?_); refine goesL_ (some 50) rfl rfl Try.func11 (by kernel_rfl) rfl #[.slice A0 l0.length c0, .int .i64 a2] rfl (by (try simp only [List.map_toArray, List.map_cons, List.map_nil]); first | done | rfl | (simp only [List.length_drop, List.length_take]; rfl)) ?_; (with_reducible refine (ebbtideref15_Drop.calls kj5 _ _ l0 a2 t267 t268 _ ?side1 ?side2 A14.out).mono ?_); (case side1 => repeat (first | exact (Kd.C_below HR0.out HB.out) | (with_reducible refine Kd.C_alloc ?_ _) | (with_reducible refine Kd.C_drewN ?_ _) | (with_reducible refine Kd.C_drew ?_))); (case side2 => exact HC0.out); rintro e w29 ⟨v269, rfl, ho0, hb⟩; refine ⟨_, rfl, ?_⟩; have n0_ := Aside0.mk (Kd.R_elder' (by (with_reducible repeat (first | apply Kd.R_alloc | apply Kd.R_drewN | apply Kd.R_drew)); exact HO254.out) (Kd.R_base ho0) hb); have n1_ := Aside0.mk (Kd.R_elder' (by (with_reducible repeat (first | apply Kd.R_alloc | apply Kd.R_drewN | apply Kd.R_drew)); exact HO258.out) (Kd.R_base ho0) hb); have n2_ := Aside0.mk (Kd.R_elder' (by (with_reducible repeat (first | apply Kd.R_alloc | apply Kd.R_drewN | apply Kd.R_drew)); exact HO262.out) (Kd.R_base ho0) hb); have n3_ := Aside0.mk (Kd.R_elder' (by (with_reducible repeat (first | apply Kd.R_alloc | apply Kd.R_drewN | apply Kd.R_drew)); exact HO266.out) (Kd.R_base ho0) hb); have n4_ := Aside0.mk (Kd.R_lower (Kd.R_new' (Kd.R_new' (Kd.R_new' (Kd.R_new' ho0 (Kd.R_lt (by (with_reducible repeat (first | apply Kd.R_alloc | apply Kd.R_drewN | apply Kd.R_drew)); exact HO254.out))) (Kd.R_lt (by (with_reducible repeat (first | apply Kd.R_alloc | apply Kd.R_drewN | apply Kd.R_drew)); exact HO258.out))) (Kd.R_lt (by (with_reducible repeat (first | apply Kd.R_alloc | apply Kd.R_drewN | apply Kd.R_drew)); exact HO262.out))) (Kd.R_lt (by (with_reducible repeat (first | apply Kd.R_alloc | apply Kd.R_drewN | apply Kd.R_drew)); exact HO266.out))) (below_size (by repeat (first | (with_reducible first | exact HB.out | apply below_alloc | apply pw_below_drewN | apply below_drew1) | exact HB.out)))); have n5_ := Aside0.mk (below_step (by repeat (first | (with_reducible first | exact HB.out | apply below_alloc | apply pw_below_drewN | apply below_drew1) | exact HB.out)) hb); clear HO254; clear HO258; clear HO262; clear HO266; clear HB; have HO254 := n0_; have HO258 := n1_; have HO262 := n2_; have HO266 := n3_; have HO270 := n4_; have HB := n5_; clear n0_ n1_ n2_ n3_ n4_ n5_; (try clear hb); (try clear hb2); (try clear hk); (try clear hi); (try clear ho0); obtain ⟨Ao30, co30, eo30⟩ := Kd.R_slice HO258.out; subst eo30; obtain ⟨Ao31, co31, eo31⟩ := Kd.R_slice HO262.out; subst eo31) | ((with_reducible refine gate_callee (f := 12) rfl ?_); refine goesL_ (some 55) rfl rfl Try.func12 (by kernel_rfl) rfl #[.slice Ao30 t255.length co30, .slice Ao31 t259.length co31] rfl (by (try simp only [List.map_toArray, List.map_cons, List.map_nil]); first | done | rfl | (simp only [List.length_drop, List.length_take]; rfl)) ?_; (with_reducible refine (ebbtideref15_Same.calls kj5 _ _ t255 _ _ t259 true _ ?side1 ?side2 ?side3 ?side4 A15.out).mono ?_); (case side1 => repeat (first | exact (Kd.R_reads' HO258.out).2.2 | (with_reducible refine Kd.C_alloc ?_ _) | (with_reducible refine Kd.C_drewN ?_ _) | (with_reducible refine Kd.C_drew ?_))); (case side2 => exact (Kd.R_reads' HO258.out).2.1); (case side3 => repeat (first | exact (Kd.R_reads' HO262.out).2.2 | (with_reducible refine Kd.C_alloc ?_ _) | (with_reducible refine Kd.C_drewN ?_ _) | (with_reducible refine Kd.C_drew ?_))); (case side4 => exact (Kd.R_reads' HO262.out).2.1); rintro e w' ⟨rfl, ⟨nd, rfl⟩⟩; refine ⟨_, rfl, ?_⟩; obtain ⟨Ao32, co32, eo32⟩ := Kd.R_slice HO266.out; subst eo32; obtain ⟨Ao33, co33, eo33⟩ := Kd.R_slice HO270.out; subst eo33) | (go_at_call 12; (with_reducible refine (ebbtideref15_Same.calls kj5 _ _ t263 _ _ t267 true _ ?side1 ?side2 ?side3 ?side4 A18.out).mono ?_); (case side1 => repeat (first | exact (Kd.R_reads' HO266.out).2.2 | (with_reducible refine Kd.C_alloc ?_ _) | (with_reducible refine Kd.C_drewN ?_ _) | (with_reducible refine Kd.C_drew ?_))); (case side2 => exact (Kd.R_reads' HO266.out).2.1); (case side3 => repeat (first | exact (Kd.R_reads' HO270.out).2.2 | (with_reducible refine Kd.C_alloc ?_ _) | (with_reducible refine Kd.C_drewN ?_ _) | (with_reducible refine Kd.C_drew ?_))); (case side4 => exact (Kd.R_reads' HO270.out).2.1); rintro e w' ⟨rfl, ⟨nd, rfl⟩⟩) | (go_at_call 12; (with_reducible refine (ebbtideref15_Same.calls kj5 _ _ y252 _ _ l0 t273 _ ?side1 ?side2 ?side3 ?side4 A21.out).mono ?_); (case side1 => repeat (first | exact (Kd.R_reads' HO254.out).2.2 | (with_reducible refine Kd.C_alloc ?_ _) | (with_reducible refine Kd.C_drewN ?_ _) | (with_reducible refine Kd.C_drew ?_))); (case side2 => exact (Kd.R_reads' HO254.out).2.1); (case side3 => repeat (first | exact (Kd.C_below HR0.out (by repeat (first | (with_reducible first | exact HB.out | apply below_alloc | apply pw_below_drewN | apply below_drew1) | exact HB.out))) | (with_reducible refine Kd.C_alloc ?_ _) | (with_reducible refine Kd.C_drewN ?_ _) | (with_reducible refine Kd.C_drew ?_))); (case side4 => exact HC0.out); rintro e w' ⟨rfl, ⟨nd, rfl⟩⟩))
                    go_ret
                    exact ⟨by first | rfl | (simp [errW_none, errW_some] <;> rfl) | (simp [*, errW_none, errW_some] <;> rfl), by repeat (first | (with_reducible first | exact HB.out | apply below_alloc | apply pw_below_drewN | apply below_drew1) | exact HB.out)⟩
                  · rw [if_neg c20] at H
                    exact absurd H (by simp)
                · replace c19 := Bool.eq_false_iff.mpr c19
                  subst c19
                  have H1 : (none) = some r := by rw [if_neg (show ¬ (false = true) by decide)] at H; exact H
                  clear H
                  have H := H1
                  clear H1
                  exact absurd H (by simp)
              · rw [if_neg c17] at H
                exact absurd H (by simp)
            · replace c16 := Bool.eq_false_iff.mpr c16
              subst c16
              have H1 : (none) = some r := by rw [if_neg (show ¬ (false = true) by decide)] at H; exact H
              clear H
              have H := H1
              clear H1
              exact absurd H (by simp)
          · rw [if_neg c10] at H
            exact absurd H (by simp)
  · replace c5 := Bool.eq_false_iff.mpr c5
    subst c5
    have H1 : (none) = some r := by rw [if_neg (show ¬ (false = true) by decide)] at H; exact H
    clear H
    have H := H1
    clear H1
    exact absurd H (by simp)

/-- What every value of type 35 that is read is like. -/
def Q35 (x : S35) : Prop := ((Lit.int .i64 x.f0).wf = true) ∧ ((Lit.int .i64 x.f1).wf = true)
/-- THE ONE PURE STATEMENT of ebbtidelaw15_PinAdds. -/
def ebbtidelaw15_PinAdds.Pure : Prop := ∀ (l0 : List (S35)) (l1 : List (S35)) (a2 : Int), (l0.length ≤ maxLen ∧ ∀ x0_ ∈ l0, Q35 x0_) → l0.length * 16 ≤ 140737488351232 → (l1.length ≤ maxLen ∧ ∀ x0_ ∈ l1, Q35 x0_) → l1.length * 16 ≤ 140737488351232 → ((Lit.int .i64 a2).wf = true) → ∃ k, ebbtidelaw15_PinAdds.f k l0 l1 a2 = some true
theorem ebbtidelaw15_PinAdds.walk (P : ebbtidelaw15_PinAdds.Pure) (l0 : List (S35)) (l1 : List (S35)) (a2 : Int) (w : World) (A0 : Option Addr) (c0 : Nat) (hr0 : Kd.C k35 w A0 l0.length l0) (hc0 : l0.length ≤ c0) (A1 : Option Addr) (c1 : Nat) (hr1 : Kd.C k35 w A1 l1.length l1) (hc1 : l1.length ≤ c1) (q0 : l0.length ≤ maxLen ∧ ∀ x0_ ∈ l0, Q35 x0_) (y0 : l0.length * 16 ≤ 140737488351232) (q1 : l1.length ≤ maxLen ∧ ∀ x0_ ∈ l1, Q35 x0_) (y1 : l1.length * 16 ≤ 140737488351232) (q2 : (Lit.int .i64 a2).wf = true) :
    Calls Try.prog 3 #[.slice A0 l0.length c0, .slice A1 l1.length c1, .int .i64 a2] w fun e w' => e = .returned (.bool true) ∧ Below w.heap.size w w' := by
  obtain ⟨k, h⟩ := P l0 l1 a2 q0 y0 q1 y1 q2
  refine (ebbtidelaw15_PinAdds.calls k A0 c0 l0 A1 c1 l1 a2 true w hr0 hc0 hr1 hc1 h).mono ?_
  rintro e w' ⟨rfl, hd⟩
  exact ⟨rfl, hd⟩

/-! ### ebbtideref15_Find: function 14 -/
def ebbtideref15_Find.l0 : Nat → List (S35) → Int → Int → Option (Int × Bool)
  | 0, _, _, _ => none
  | k + 1, x0, x1, x6 => if x6 < (x0.length : Int) then (if 0 ≤ x6 then (if ((rd_T35 x0 x6).f0) = x1 then (some ((rd_T35 x0 x6).f1, true)) else (ebbtideref15_Find.l0 k x0 x1 (wrap64 (x6 + 1)))) else (none)) else (some (0, false))
def ebbtideref15_Find.f (k : Nat) (l0 : List (S35)) (a1 : Int) : Option (Int × Bool) := ebbtideref15_Find.l0 k l0 a1 0
theorem ebbtideref15_Find.mono_l : ∀ k, (∀ y0 y1 y2, LeO (ebbtideref15_Find.l0 k y0 y1 y2) (ebbtideref15_Find.l0 (k + 1) y0 y1 y2))
  | 0 => fun _ _ _ r h => by simp [ebbtideref15_Find.l0] at h
  | k + 1 => by
    have ih0 := ebbtideref15_Find.mono_l k
    · intro y0 y1 y2
      unfold ebbtideref15_Find.l0
      repeat' first
      | (with_reducible exact ih0 _ _ _)
      | (with_reducible exact LeO.refl _)
      | (with_reducible exact LeO.none _)
      | (with_reducible refine LeO.ite ?_ ?_)
      | (with_reducible refine LeO.bind ?_ (fun _ => ?_))
      | exact ih0 _ _ _
      | exact LeO.none _
      | refine LeO.ite ?_ ?_
      | refine LeO.bind ?_ (fun _ => ?_)
theorem ebbtideref15_Find.mono : ∀ a0 a1 k, LeO (ebbtideref15_Find.f k a0 a1) (ebbtideref15_Find.f (k + 1) a0 a1) := by
  intro a0 a1 k
  have ih0 := ebbtideref15_Find.mono_l k
  unfold ebbtideref15_Find.f
  repeat' first
      | (with_reducible exact ih0 _ _ _)
      | (with_reducible exact LeO.refl _)
      | (with_reducible exact LeO.none _)
      | (with_reducible refine LeO.ite ?_ ?_)
      | (with_reducible refine LeO.bind ?_ (fun _ => ?_))
      | exact ih0 _ _ _
      | exact LeO.none _
      | refine LeO.ite ?_ ?_
      | refine LeO.bind ?_ (fun _ => ?_)
set_option maxHeartbeats 8000000 in
set_option maxRecDepth 100000 in
theorem ebbtideref15_Find.calls (k : Nat) (A0 : Option Addr) (c0 : Nat) (l0 : List (S35)) (a1 : Int) (r1 : Int) (r2 : Bool) (w : World) (hr0 : Kd.C k35 w A0 l0.length l0) (hc0 : l0.length ≤ c0) (h : ebbtideref15_Find.f k l0 a1 = some (r1, r2)) :
    Calls Try.prog 14 #[.slice A0 l0.length c0, .int .i64 a1] w fun e w' => e = .returned (.tuple #[.int .i64 r1, .bool r2]) ∧ Drawn0 w w' := by
  have HR0 := Aside0.mk hr0
  have HC0 := Aside0.mk hc0
  clear hr0 hc0
  have H : (ebbtideref15_Find.l0 k l0 a1 0) = some (r1, r2) := h
  clear h
  have H' := Aside0.mk H
  clear H
  go_enter Try.func14, Try.ntmps14
  go_wp2
  go_loopg [6] k (fun kq v6 w' => ∃ (x6_1 : Int), v6 = .int .i64 x6_1 ∧ Aside0 (ebbtideref15_Find.l0 kq l0 a1 x6_1 = some (r1, r2)) ∧ Aside0 (kq ≤ k) ∧ Drawn0 w w')
  case atStart => exact ⟨(0), (by first | rfl | (simp; done) | (simp [*]; done)), H', ⟨Nat.le_refl _⟩, by repeat (first | exact Drawn0.refl _ | apply Drawn0.step)⟩
  case round =>
    clear H'
    try clear c1
    try clear p2
    obtain ⟨x6_1, rfl, HA, HK1, ⟨m1, rfl⟩⟩ := hrel
    cases gk with
    | zero => exact absurd HA.out (by simp [ebbtideref15_Find.l0])
    | succ k1 =>
      have H := HA.out
      clear HA
      simp only [ebbtideref15_Find.l0] at H
      by_cases c3 : x6_1 < (l0.length : Int)
      · rw [if_pos c3] at H
        have c3b0 : decide (x6_1 < (l0.length : Int)) = true := decide_eq_true c3
        clear c3
        by_cases c4 : 0 ≤ x6_1
        · rw [if_pos c4] at H
          have c4b0 : decide (0 ≤ x6_1) = true := decide_eq_true c4
          clear c4
          by_cases c5 : ((rd_T35 l0 x6_1).f0) = a1
          · rw [if_pos c5] at H
            have c5b0 : (((rd_T35 l0 x6_1).f0) == a1) = true := beq_iff_eq.mpr c5
            have c5b1 : (((rd_T35 l0 x6_1).f0) != a1) = false := bne_eq_false_iff_eq.mpr c5
            clear c5
            simp only [Option.some.injEq, Prod.mk.injEq] at H
            obtain ⟨rfl, rfl⟩ := H
            have p274 : 0 ≤ (x6_1 : Int) := of_decide_eq_true (by first | (with_reducible assumption) | assumption)
            have q274 : x6_1 < (l0.length : Int) := of_decide_eq_true (by first | (with_reducible assumption) | assumption)
            obtain ⟨ad274, e274, hx274_0, hx274_1⟩ := at_T35 HR0.out x6_1 p274 q274
            cases e274
            replace p274 := eq_true p274
            replace q274 := eq_true q274
            have p275 : 0 ≤ (x6_1 : Int) := of_decide_eq_true (by first | (with_reducible assumption) | assumption)
            have q275 : x6_1 < (l0.length : Int) := of_decide_eq_true (by first | (with_reducible assumption) | assumption)
            obtain ⟨ad275, e275, hx275_0, hx275_1⟩ := at_T35 HR0.out x6_1 p275 q275
            obtain rfl : ad274 = ad275 := (by injection e275)
            replace p275 := eq_true p275
            replace q275 := eq_true q275
            go_wp2
            go_ret2
            exact ⟨by first | rfl | (simp; done) | (simp [*]; done), by repeat (first | exact Drawn0.refl _ | apply Drawn0.step)⟩
          · rw [if_neg c5] at H
            have c5b0 : (((rd_T35 l0 x6_1).f0) == a1) = false := beq_eq_false_iff_ne.mpr c5
            have c5b1 : (((rd_T35 l0 x6_1).f0) != a1) = true := bne_iff_ne.mpr c5
            have H' := Aside0.mk H
            clear H
            have p274 : 0 ≤ (x6_1 : Int) := of_decide_eq_true (by first | (with_reducible assumption) | assumption)
            have q274 : x6_1 < (l0.length : Int) := of_decide_eq_true (by first | (with_reducible assumption) | assumption)
            obtain ⟨ad274, e274, hx274_0, hx274_1⟩ := at_T35 HR0.out x6_1 p274 q274
            cases e274
            replace p274 := eq_true p274
            replace q274 := eq_true q274
            go_wp2
            go_roundg k1
            case measure => have := HK1.out; omega
            case rel => exact ⟨(wrap64 (x6_1 + 1)), (by first | rfl | (simp; done) | (simp [*]; done)), H', ⟨by have := HK1.out; omega⟩, by repeat (first | exact Drawn0.refl _ | apply Drawn0.step)⟩
        · rw [if_neg c4] at H
          exact absurd H (by simp)
      · rw [if_neg c3] at H
        have c3b0 : decide (x6_1 < (l0.length : Int)) = false := decide_eq_false c3
        clear c3
        simp only [Option.some.injEq, Prod.mk.injEq] at H
        obtain ⟨rfl, rfl⟩ := H
        go_wp2
        go_ret2
        exact ⟨by first | rfl | (simp; done) | (simp [*]; done), by repeat (first | exact Drawn0.refl _ | apply Drawn0.step)⟩

/-! ### ebbtidelaw15_PinTells: function 4 -/
def ebbtidelaw15_PinTells.j0 : Nat → List (S35) → List (S35) → Int → Bool → Option (Bool)
  | 0, _, _, _, _ => none
  | k + 1, x0, x1, x2, x20 => if x20 = true then (some true) else ((pin_Find.f x0 x2).bind fun bt277 => ((ebbtideref15_Find.f k x0 x2).bind fun bt279 => (if bt277.1 = bt279.1 then (if (bt277.2 == bt279.2) = true then ((pin_Right.f k x0).bind fun t281 => ((ebbtideref15_Right.f k x0).bind fun t282 => (if (t281 == t282) = true then ((pin_Same.f k x0 x1).bind fun t283 => ((ebbtideref15_Same.f k x0 x1).bind fun t284 => (some (t283 == t284)))) else (none)))) else (none)) else (none))))
def ebbtidelaw15_PinTells.f (k : Nat) (l0 : List (S35)) (l1 : List (S35)) (a2 : Int) : Option (Bool) := (ebbtidelaw15_alive.f k).bind fun t276 => (if t276 = true then (if (l0.length : Int) > 100 then (ebbtidelaw15_PinTells.j0 k l0 l1 a2 true) else (ebbtidelaw15_PinTells.j0 k l0 l1 a2 (decide ((l1.length : Int) > 100)))) else (none))
theorem ebbtidelaw15_PinTells.mono_l : ∀ k, (∀ y0 y1 y2 y3, LeO (ebbtidelaw15_PinTells.j0 k y0 y1 y2 y3) (ebbtidelaw15_PinTells.j0 (k + 1) y0 y1 y2 y3))
  | 0 => fun _ _ _ _ r h => by simp [ebbtidelaw15_PinTells.j0] at h
  | k + 1 => by
    have ih0 := ebbtidelaw15_PinTells.mono_l k
    · intro y0 y1 y2 y3
      unfold ebbtidelaw15_PinTells.j0
      repeat' first
      | (with_reducible exact ih0 _ _ _ _)
      | (with_reducible exact ebbtidelaw15_alive.mono _)
      | (with_reducible exact ebbtideref15_Find.mono _ _ _)
      | (with_reducible exact ebbtideref15_Right.mono _ _)
      | (with_reducible exact ebbtideref15_Same.mono _ _ _)
      | (with_reducible exact pin_Right.mono _ _)
      | (with_reducible exact pin_Same.mono _ _ _)
      | (with_reducible exact LeO.refl _)
      | (with_reducible exact LeO.none _)
      | (with_reducible refine LeO.ite ?_ ?_)
      | (with_reducible refine LeO.bind ?_ (fun _ => ?_))
      | exact ih0 _ _ _ _
      | exact ebbtidelaw15_alive.mono _
      | exact ebbtideref15_Find.mono _ _ _
      | exact ebbtideref15_Right.mono _ _
      | exact ebbtideref15_Same.mono _ _ _
      | exact pin_Right.mono _ _
      | exact pin_Same.mono _ _ _
      | exact LeO.none _
      | refine LeO.ite ?_ ?_
      | refine LeO.bind ?_ (fun _ => ?_)
theorem ebbtidelaw15_PinTells.mono : ∀ a0 a1 a2 k, LeO (ebbtidelaw15_PinTells.f k a0 a1 a2) (ebbtidelaw15_PinTells.f (k + 1) a0 a1 a2) := by
  intro a0 a1 a2 k
  have ih0 := ebbtidelaw15_PinTells.mono_l k
  unfold ebbtidelaw15_PinTells.f
  repeat' first
      | (with_reducible exact ih0 _ _ _ _)
      | (with_reducible exact ebbtidelaw15_alive.mono _)
      | (with_reducible exact ebbtideref15_Find.mono _ _ _)
      | (with_reducible exact ebbtideref15_Right.mono _ _)
      | (with_reducible exact ebbtideref15_Same.mono _ _ _)
      | (with_reducible exact pin_Right.mono _ _)
      | (with_reducible exact pin_Same.mono _ _ _)
      | (with_reducible exact LeO.refl _)
      | (with_reducible exact LeO.none _)
      | (with_reducible refine LeO.ite ?_ ?_)
      | (with_reducible refine LeO.bind ?_ (fun _ => ?_))
      | exact ih0 _ _ _ _
      | exact ebbtidelaw15_alive.mono _
      | exact ebbtideref15_Find.mono _ _ _
      | exact ebbtideref15_Right.mono _ _
      | exact ebbtideref15_Same.mono _ _ _
      | exact pin_Right.mono _ _
      | exact pin_Same.mono _ _ _
      | exact LeO.none _
      | refine LeO.ite ?_ ?_
      | refine LeO.bind ?_ (fun _ => ?_)
set_option maxHeartbeats 8000000 in
set_option maxRecDepth 100000 in
theorem ebbtidelaw15_PinTells.calls (k : Nat) (A0 : Option Addr) (c0 : Nat) (l0 : List (S35)) (A1 : Option Addr) (c1 : Nat) (l1 : List (S35)) (a2 : Int) (r : Bool) (w : World) (hr0 : Kd.C k35 w A0 l0.length l0) (hc0 : l0.length ≤ c0) (hr1 : Kd.C k35 w A1 l1.length l1) (hc1 : l1.length ≤ c1) (h : ebbtidelaw15_PinTells.f k l0 l1 a2 = some r) :
    Calls Try.prog 4 #[.slice A0 l0.length c0, .slice A1 l1.length c1, .int .i64 a2] w fun e w' => e = .returned (.bool r) ∧ Below w.heap.size w w' := by
  have HR0 := Aside0.mk hr0
  have HC0 := Aside0.mk hc0
  clear hr0 hc0
  have HR1 := Aside0.mk hr1
  have HC1 := Aside0.mk hc1
  clear hr1 hc1
  have HB := Aside0.mk (Below.refl w.heap.size w)
  have H : ((ebbtidelaw15_alive.f k).bind fun t276 => (if t276 = true then (if (l0.length : Int) > 100 then (ebbtidelaw15_PinTells.j0 k l0 l1 a2 true) else (ebbtidelaw15_PinTells.j0 k l0 l1 a2 (decide ((l1.length : Int) > 100)))) else (none))) = some r := h
  clear h
  replace H := Option.bind_eq_some_iff.mp H
  obtain ⟨t276, A40, H⟩ := H
  replace H : (if t276 = true then (if (l0.length : Int) > 100 then (ebbtidelaw15_PinTells.j0 k l0 l1 a2 true) else (ebbtidelaw15_PinTells.j0 k l0 l1 a2 (decide ((l1.length : Int) > 100)))) else (none)) = some r := H
  have A4 := Aside0.mk A40
  clear A40
  by_cases c5 : t276 = true
  · subst c5
    have H1 : (if (l0.length : Int) > 100 then (ebbtidelaw15_PinTells.j0 k l0 l1 a2 true) else (ebbtidelaw15_PinTells.j0 k l0 l1 a2 (decide ((l1.length : Int) > 100)))) = some r := by rw [if_pos rfl] at H; exact H
    clear H
    have H := H1
    clear H1
    have HC6 := Aside0.mk H
    clear H
    go_enter Try.func4, Try.ntmps4
    go_upto_region 3 with (first | ((with_reducible refine gate_callee (f := 7) rfl ?_); refine goesL_ (some 11) rfl rfl Try.func7 (by kernel_rfl) rfl #[] rfl (by (try simp only [List.map_toArray, List.map_cons, List.map_nil]); first | done | rfl | (simp only [List.length_drop, List.length_take]; rfl)) ?_; (with_reducible refine (ebbtidelaw15_alive.calls k  true _ A4.out).mono ?_); rintro e w7 ⟨rfl, hb⟩; refine ⟨_, rfl, ?_⟩; have n0_ := Aside0.mk (below_step (by repeat (first | (with_reducible first | exact HB.out | apply below_alloc | apply pw_below_drewN | apply below_drew1) | exact HB.out)) hb); clear HB; have HB := n0_; clear n0_; (try clear hb); (try clear hb2); (try clear hk); (try clear hi)))
    (try simp only [Act.put, List.setIfInBounds_toArray, List.set_cons_zero, List.set_cons_succ])
    go_cut [20] (fun v20 wc => ∃ (kq : Nat) (x20_5 : Bool), v20 = .bool x20_5 ∧ Aside0 (ebbtidelaw15_PinTells.j0 kq l0 l1 a2 x20_5 = some r) ∧ Aside0 (kq ≤ k) ∧ Aside0 (Below w.heap.size w wc))
    case first =>
      have H := HC6.out
      clear HC6
      by_cases c8 : (l0.length : Int) > 100
      · rw [if_pos c8] at H
        have c8b0 : decide (100 < (l0.length : Int)) = true := decide_eq_true c8
        have c8b1 : decide (100 < l0.length) = true := decide_eq_true (by omega)
        clear c8
        (first | rw [c8b0] | (simp only [i64_w, i32_w]; rw [c8b0]) | skip)
        have H' := Aside0.mk H
        clear H
        go_wp2
        go_meet
        case rel => exact ⟨_, (true), (by first | rfl | (simp; done) | (simp [*]; done)), H', ⟨by first | omega | exact Nat.le_refl _⟩, ⟨by repeat (first | (with_reducible first | exact HB.out | apply below_alloc | apply pw_below_drewN | apply below_drew1) | exact HB.out)⟩⟩
      · rw [if_neg c8] at H
        have c8b0 : decide (100 < (l0.length : Int)) = false := decide_eq_false c8
        have c8b1 : decide (100 < l0.length) = false := decide_eq_false (by omega)
        clear c8
        (first | rw [c8b0] | (simp only [i64_w, i32_w]; rw [c8b0]) | skip)
        have H' := Aside0.mk H
        clear H
        go_wp2
        go_meet
        case rel => exact ⟨_, (decide ((l1.length : Int) > 100)), (by first | rfl | (simp; done) | (simp [*]; done)), H', ⟨by first | omega | exact Nat.le_refl _⟩, ⟨by repeat (first | (with_reducible first | exact HB.out | apply below_alloc | apply pw_below_drewN | apply below_drew1) | exact HB.out)⟩⟩
    case rest =>
      clear HC6
      try clear c1
      try clear p2
      try clear c4
      try clear c5
      try clear c7
      try clear c8
      try clear c8b0
      try clear c8b1
      obtain ⟨kq, x20_5, rfl, HA, HJ5, HB⟩ := hcut
      cases kq with
      | zero => exact absurd HA.out (by simp [ebbtidelaw15_PinTells.j0])
      | succ kj5 =>
        have H := HA.out
        clear HA
        simp only [ebbtidelaw15_PinTells.j0] at H
        by_cases c9 : x20_5 = true
        · subst c9
          have H1 : (some true) = some r := by rw [if_pos rfl] at H; exact H
          clear H
          have H := H1
          clear H1
          obtain rfl := Option.some.inj H
          go_wp2
          go_ret
          exact ⟨by first | rfl | (simp [errW_none, errW_some] <;> rfl) | (simp [*, errW_none, errW_some] <;> rfl), by repeat (first | (with_reducible first | exact HB.out | apply below_alloc | apply pw_below_drewN | apply below_drew1) | exact HB.out)⟩
        · replace c9 := Bool.eq_false_iff.mpr c9
          subst c9
          have H1 : ((pin_Find.f l0 a2).bind fun bt277 => ((ebbtideref15_Find.f kj5 l0 a2).bind fun bt279 => (if bt277.1 = bt279.1 then (if (bt277.2 == bt279.2) = true then ((pin_Right.f kj5 l0).bind fun t281 => ((ebbtideref15_Right.f kj5 l0).bind fun t282 => (if (t281 == t282) = true then ((pin_Same.f kj5 l0 l1).bind fun t283 => ((ebbtideref15_Same.f kj5 l0 l1).bind fun t284 => (some (t283 == t284)))) else (none)))) else (none)) else (none)))) = some r := by rw [if_neg (show ¬ (false = true) by decide)] at H; exact H
          clear H
          have H := H1
          clear H1
          replace H := Option.bind_eq_some_iff.mp H
          obtain ⟨⟨t277, t278⟩, A100, H⟩ := H
          replace H : ((ebbtideref15_Find.f kj5 l0 a2).bind fun bt279 => (if t277 = bt279.1 then (if (t278 == bt279.2) = true then ((pin_Right.f kj5 l0).bind fun t281 => ((ebbtideref15_Right.f kj5 l0).bind fun t282 => (if (t281 == t282) = true then ((pin_Same.f kj5 l0 l1).bind fun t283 => ((ebbtideref15_Same.f kj5 l0 l1).bind fun t284 => (some (t283 == t284)))) else (none)))) else (none)) else (none))) = some r := H
          have A10 := Aside0.mk A100
          clear A100
          replace H := Option.bind_eq_some_iff.mp H
          obtain ⟨⟨t279, t280⟩, A110, H⟩ := H
          replace H : (if t277 = t279 then (if (t278 == t280) = true then ((pin_Right.f kj5 l0).bind fun t281 => ((ebbtideref15_Right.f kj5 l0).bind fun t282 => (if (t281 == t282) = true then ((pin_Same.f kj5 l0 l1).bind fun t283 => ((ebbtideref15_Same.f kj5 l0 l1).bind fun t284 => (some (t283 == t284)))) else (none)))) else (none)) else (none)) = some r := H
          have A11 := Aside0.mk A110
          clear A110
          by_cases c12 : t277 = t279
          · rw [if_pos c12] at H
            have c12b0 : (t277 == t279) = true := beq_iff_eq.mpr c12
            have c12b1 : (t277 != t279) = false := bne_eq_false_iff_eq.mpr c12
            clear c12
            by_cases c13 : (t278 == t280) = true
            · rw [if_pos c13] at H
              have c13b0 : (t278 == t280) = true := c13
              (try (have c13b1 : decide (t278 = t280) = true := by simpa using c13))
              (try (have c13b2 : (t278 == t280) = true := by simpa using c13))
              clear c13
              replace H := Option.bind_eq_some_iff.mp H
              obtain ⟨t281, A140, H⟩ := H
              replace H : ((ebbtideref15_Right.f kj5 l0).bind fun t282 => (if (t281 == t282) = true then ((pin_Same.f kj5 l0 l1).bind fun t283 => ((ebbtideref15_Same.f kj5 l0 l1).bind fun t284 => (some (t283 == t284)))) else (none))) = some r := H
              have A14 := Aside0.mk A140
              clear A140
              replace H := Option.bind_eq_some_iff.mp H
              obtain ⟨t282, A150, H⟩ := H
              replace H : (if (t281 == t282) = true then ((pin_Same.f kj5 l0 l1).bind fun t283 => ((ebbtideref15_Same.f kj5 l0 l1).bind fun t284 => (some (t283 == t284)))) else (none)) = some r := H
              have A15 := Aside0.mk A150
              clear A150
              by_cases c16 : (t281 == t282) = true
              · rw [if_pos c16] at H
                have c16b0 : (t281 == t282) = true := c16
                (try (have c16b1 : decide (t281 = t282) = true := by simpa using c16))
                (try (have c16b2 : (t281 == t282) = true := by simpa using c16))
                clear c16
                replace H := Option.bind_eq_some_iff.mp H
                obtain ⟨t283, A170, H⟩ := H
                replace H : ((ebbtideref15_Same.f kj5 l0 l1).bind fun t284 => (some (t283 == t284))) = some r := H
                have A17 := Aside0.mk A170
                clear A170
                replace H := Option.bind_eq_some_iff.mp H
                obtain ⟨t284, A180, H⟩ := H
                replace H : (some (t283 == t284)) = some r := H
                have A18 := Aside0.mk A180
                clear A180
                obtain rfl := Option.some.inj H
                go_wp2_with (first | ((with_reducible refine gate_callee (f := 13) rfl ?_); refine goesL_ (some 24) rfl rfl Try.func13 (by kernel_rfl) rfl #[.slice A0 l0.length c0, .int .i64 a2] rfl (by (try simp only [List.map_toArray, List.map_cons, List.map_nil]); first | done | rfl | (simp only [List.length_drop, List.length_take]; rfl)) ?_; (with_reducible refine (pin_Find.calls _ _ l0 a2 t277 t278 _ ?side1 ?side2 A10.out).mono ?_); (case side1 => repeat (first | exact (Kd.C_below HR0.out HB.out) | (with_reducible refine Kd.C_alloc ?_ _) | (with_reducible refine Kd.C_drewN ?_ _) | (with_reducible refine Kd.C_drew ?_))); (case side2 => exact HC0.out); rintro e w19 ⟨rfl, hb⟩; refine ⟨_, rfl, ?_⟩; have n0_ := Aside0.mk (below_step (by repeat (first | (with_reducible first | exact HB.out | apply below_alloc | apply pw_below_drewN | apply below_drew1) | exact HB.out)) hb); clear HB; have HB := n0_; clear n0_; (try clear hb); (try clear hb2); (try clear hk); (try clear hi)) | ((with_reducible refine gate_callee (f := 14) rfl ?_); refine goesL_ (some 30) rfl rfl Try.func14 (by kernel_rfl) rfl #[.slice A0 l0.length c0, .int .i64 a2] rfl (by (try simp only [List.map_toArray, List.map_cons, List.map_nil]); first | done | rfl | (simp only [List.length_drop, List.length_take]; rfl)) ?_; (with_reducible refine (ebbtideref15_Find.calls kj5 _ _ l0 a2 t279 t280 _ ?side1 ?side2 A11.out).mono ?_); (case side1 => repeat (first | exact (Kd.C_below HR0.out HB.out) | (with_reducible refine Kd.C_alloc ?_ _) | (with_reducible refine Kd.C_drewN ?_ _) | (with_reducible refine Kd.C_drew ?_))); (case side2 => exact HC0.out); rintro e w' ⟨rfl, ⟨nd, rfl⟩⟩; refine ⟨_, rfl, ?_⟩) | (go_at_call 15; (with_reducible refine (pin_Right.calls kj5 _ _ l0 t281 _ ?side1 ?side2 A14.out).mono ?_); (case side1 => repeat (first | exact (Kd.C_below HR0.out (by repeat (first | (with_reducible first | exact HB.out | apply below_alloc | apply pw_below_drewN | apply below_drew1) | exact HB.out))) | (with_reducible refine Kd.C_alloc ?_ _) | (with_reducible refine Kd.C_drewN ?_ _) | (with_reducible refine Kd.C_drew ?_))); (case side2 => exact HC0.out); rintro e w20 ⟨rfl, hb⟩; have n0_ := Aside0.mk (below_step (by repeat (first | (with_reducible first | exact HB.out | apply below_alloc | apply pw_below_drewN | apply below_drew1) | exact HB.out)) hb); clear HB; have HB := n0_; clear n0_; (try clear hb); (try clear hb2); (try clear hk); (try clear hi)) | (go_at_call 16; (with_reducible refine (ebbtideref15_Right.calls kj5 _ _ l0 t282 _ ?side1 ?side2 A15.out).mono ?_); (case side1 => repeat (first | exact (Kd.C_below HR0.out HB.out) | (with_reducible refine Kd.C_alloc ?_ _) | (with_reducible refine Kd.C_drewN ?_ _) | (with_reducible refine Kd.C_drew ?_))); (case side2 => exact HC0.out); rintro e w' ⟨rfl, ⟨nd, rfl⟩⟩) | (go_at_call 17; (with_reducible refine (pin_Same.calls kj5 _ _ l0 _ _ l1 t283 _ ?side1 ?side2 ?side3 ?side4 A17.out).mono ?_); (case side1 => repeat (first | exact (Kd.C_below HR0.out (by repeat (first | (with_reducible first | exact HB.out | apply below_alloc | apply pw_below_drewN | apply below_drew1) | exact HB.out))) | (with_reducible refine Kd.C_alloc ?_ _) | (with_reducible refine Kd.C_drewN ?_ _) | (with_reducible refine Kd.C_drew ?_))); (case side2 => exact HC0.out); (case side3 => repeat (first | exact (Kd.C_below HR1.out (by repeat (first | (with_reducible first | exact HB.out | apply below_alloc | apply pw_below_drewN | apply below_drew1) | exact HB.out))) | (with_reducible refine Kd.C_alloc ?_ _) | (with_reducible refine Kd.C_drewN ?_ _) | (with_reducible refine Kd.C_drew ?_))); (case side4 => exact HC1.out); rintro e w' ⟨rfl, ⟨nd, rfl⟩⟩) | (go_at_call 12; (with_reducible refine (ebbtideref15_Same.calls kj5 _ _ l0 _ _ l1 t284 _ ?side1 ?side2 ?side3 ?side4 A18.out).mono ?_); (case side1 => repeat (first | exact (Kd.C_below HR0.out (by repeat (first | (with_reducible first | exact HB.out | apply below_alloc | apply pw_below_drewN | apply below_drew1) | exact HB.out))) | (with_reducible refine Kd.C_alloc ?_ _) | (with_reducible refine Kd.C_drewN ?_ _) | (with_reducible refine Kd.C_drew ?_))); (case side2 => exact HC0.out); (case side3 => repeat (first | exact (Kd.C_below HR1.out (by repeat (first | (with_reducible first | exact HB.out | apply below_alloc | apply pw_below_drewN | apply below_drew1) | exact HB.out))) | (with_reducible refine Kd.C_alloc ?_ _) | (with_reducible refine Kd.C_drewN ?_ _) | (with_reducible refine Kd.C_drew ?_))); (case side4 => exact HC1.out); rintro e w' ⟨rfl, ⟨nd, rfl⟩⟩))
                go_ret
                exact ⟨by first | rfl | (simp [errW_none, errW_some] <;> rfl) | (simp [*, errW_none, errW_some] <;> rfl), by repeat (first | (with_reducible first | exact HB.out | apply below_alloc | apply pw_below_drewN | apply below_drew1) | exact HB.out)⟩
              · rw [if_neg c16] at H
                exact absurd H (by simp)
            · rw [if_neg c13] at H
              exact absurd H (by simp)
          · rw [if_neg c12] at H
            exact absurd H (by simp)
  · replace c5 := Bool.eq_false_iff.mpr c5
    subst c5
    have H1 : (none) = some r := by rw [if_neg (show ¬ (false = true) by decide)] at H; exact H
    clear H
    have H := H1
    clear H1
    exact absurd H (by simp)

/-- THE ONE PURE STATEMENT of ebbtidelaw15_PinTells. -/
def ebbtidelaw15_PinTells.Pure : Prop := ∀ (l0 : List (S35)) (l1 : List (S35)) (a2 : Int), (l0.length ≤ maxLen ∧ ∀ x0_ ∈ l0, Q35 x0_) → l0.length * 16 ≤ 140737488351232 → (l1.length ≤ maxLen ∧ ∀ x0_ ∈ l1, Q35 x0_) → l1.length * 16 ≤ 140737488351232 → ((Lit.int .i64 a2).wf = true) → ∃ k, ebbtidelaw15_PinTells.f k l0 l1 a2 = some true
theorem ebbtidelaw15_PinTells.walk (P : ebbtidelaw15_PinTells.Pure) (l0 : List (S35)) (l1 : List (S35)) (a2 : Int) (w : World) (A0 : Option Addr) (c0 : Nat) (hr0 : Kd.C k35 w A0 l0.length l0) (hc0 : l0.length ≤ c0) (A1 : Option Addr) (c1 : Nat) (hr1 : Kd.C k35 w A1 l1.length l1) (hc1 : l1.length ≤ c1) (q0 : l0.length ≤ maxLen ∧ ∀ x0_ ∈ l0, Q35 x0_) (y0 : l0.length * 16 ≤ 140737488351232) (q1 : l1.length ≤ maxLen ∧ ∀ x0_ ∈ l1, Q35 x0_) (y1 : l1.length * 16 ≤ 140737488351232) (q2 : (Lit.int .i64 a2).wf = true) :
    Calls Try.prog 4 #[.slice A0 l0.length c0, .slice A1 l1.length c1, .int .i64 a2] w fun e w' => e = .returned (.bool true) ∧ Below w.heap.size w w' := by
  obtain ⟨k, h⟩ := P l0 l1 a2 q0 y0 q1 y1 q2
  refine (ebbtidelaw15_PinTells.calls k A0 c0 l0 A1 c1 l1 a2 true w hr0 hc0 hr1 hc1 h).mono ?_
  rintro e w' ⟨rfl, hd⟩
  exact ⟨rfl, hd⟩

end Go.Proofs.Ythgoegjkiofbkaa.X
