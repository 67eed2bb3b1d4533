/- Printed by a program of this session's own: what functions of the program compute, and that the machine computes it. -/
import Derived.Test.YtigkkkhkejcakaaDoorXx0
import Derived.Test.YtigkkkhkejcakaaDoorXx1
import Derived.Test.YtigkkkhkejcakaaDoorXx2
import Derived.Test.YtigkkkhkejcakaaDoorXx4
namespace Go.Proofs.YtigkkkhkejcakaaDoor.X
open Go.RowKit Go.Proofs.YtigkkkhkejcakaaDoorW.PrintWords Go.Proofs.YtigkkkhkejcakaaDoorW.PrintLast Go.Proofs.YtigkkkhkejcakaaDoorW.PrintMore
attribute [local go_sem] max2_int min2_int max_two min_two max_three min_three max_four min_four   -- for this text's walks alone
set_option linter.unusedVariables false
set_option linter.unusedSimpArgs false

/-! ### ebbtideref02_Join: function 19 -/
def ebbtideref02_Join.l0 : Nat → ByteArray → List ByteArray → ByteArray → Int → Option (ByteArray)
  | 0, _, _, _, _ => none
  | k + 1, x0, x1, x5, x6 => if x6 < (x1.length : Int) then (if x6 > 0 then (if x5.size + x0.size ≤ 9223372036854775807 then (if 0 ≤ x6 then (if (x5 ++ x0).size + (rdOf ByteArray.empty x1 x6).size ≤ 9223372036854775807 then (ebbtideref02_Join.l0 k x0 x1 ((x5 ++ x0) ++ (rdOf ByteArray.empty x1 x6)) (wrap64 (x6 + 1))) else (none)) else (none)) else (none)) else (if 0 ≤ x6 then (if x5.size + (rdOf ByteArray.empty x1 x6).size ≤ 9223372036854775807 then (ebbtideref02_Join.l0 k x0 x1 (x5 ++ (rdOf ByteArray.empty x1 x6)) (wrap64 (x6 + 1))) else (none)) else (none))) else (some x5)
def ebbtideref02_Join.f (k : Nat) (a0 : ByteArray) (l1 : List ByteArray) : Option (ByteArray) := ebbtideref02_Join.l0 k a0 l1 (⟨#[]⟩ : ByteArray) 0
theorem ebbtideref02_Join.mono_l : ∀ k, (∀ y0 y1 y2 y3, LeO (ebbtideref02_Join.l0 k y0 y1 y2 y3) (ebbtideref02_Join.l0 (k + 1) y0 y1 y2 y3))
  | 0 => fun _ _ _ _ r h => by simp [ebbtideref02_Join.l0] at h
  | k + 1 => by
    have ih0 := ebbtideref02_Join.mono_l k
    · intro y0 y1 y2 y3
      unfold ebbtideref02_Join.l0
      repeat' first
      | (with_reducible exact ih0 _ _ _ _)
      | (with_reducible exact LeO.refl _)
      | (with_reducible exact LeO.none _)
      | (with_reducible refine LeO.ite ?_ ?_)
      | (with_reducible refine LeO.bind ?_ (fun _ => ?_))
      | exact ih0 _ _ _ _
      | exact LeO.none _
      | refine LeO.ite ?_ ?_
      | refine LeO.bind ?_ (fun _ => ?_)
theorem ebbtideref02_Join.mono : ∀ a0 a1 k, LeO (ebbtideref02_Join.f k a0 a1) (ebbtideref02_Join.f (k + 1) a0 a1) := by
  intro a0 a1 k
  have ih0 := ebbtideref02_Join.mono_l k
  unfold ebbtideref02_Join.f
  repeat' first
      | (with_reducible exact ih0 _ _ _ _)
      | (with_reducible exact LeO.refl _)
      | (with_reducible exact LeO.none _)
      | (with_reducible refine LeO.ite ?_ ?_)
      | (with_reducible refine LeO.bind ?_ (fun _ => ?_))
      | exact ih0 _ _ _ _
      | exact LeO.none _
      | refine LeO.ite ?_ ?_
      | refine LeO.bind ?_ (fun _ => ?_)
set_option maxHeartbeats 8000000 in
set_option maxRecDepth 100000 in
theorem ebbtideref02_Join.calls (k : Nat) (a0 : ByteArray) (A1 : Option Addr) (c1 : Nat) (l1 : List ByteArray) (r : ByteArray) (w : World) (hr1 : Kd.C Kd.string w A1 l1.length l1) (hc1 : l1.length ≤ c1) (h : ebbtideref02_Join.f k a0 l1 = some r) :
    Calls Tryd.prog 19 #[.string a0, .slice A1 l1.length c1] w fun e w' => e = .returned (.string r) ∧ Drawn0 w w' := by
  have HR1 := Aside0.mk hr1
  have HC1 := Aside0.mk hc1
  clear hr1 hc1
  have H : (ebbtideref02_Join.l0 k a0 l1 (⟨#[]⟩ : ByteArray) 0) = some r := h
  clear h
  have H' := Aside0.mk H
  clear H
  go_enter Tryd.func19, Tryd.ntmps19
  go_wp2
  go_loopg [5, 6] k (fun kq v5 v6 w' => ∃ (x5_1 : ByteArray) (x6_1 : Int), v5 = .string x5_1 ∧ v6 = .int .i64 x6_1 ∧ Aside0 (ebbtideref02_Join.l0 kq a0 l1 x5_1 x6_1 = some r) ∧ Aside0 (kq ≤ k) ∧ Drawn0 w w')
  case atStart => exact ⟨((⟨#[]⟩ : ByteArray)), (0), (by first | rfl | (simp; done) | (simp [*]; done)), (by first | rfl | (simp; done) | (simp [*]; done)), H', ⟨Nat.le_refl _⟩, by repeat (first | exact Drawn0.refl _ | apply Drawn0.step)⟩
  case round =>
    clear H'
    try clear c1
    try clear p2
    obtain ⟨x5_1, x6_1, rfl, rfl, HA, HK1, ⟨m1, rfl⟩⟩ := hrel
    cases gk with
    | zero => exact absurd HA.out (by simp [ebbtideref02_Join.l0])
    | succ k1 =>
      have H := HA.out
      clear HA
      simp only [ebbtideref02_Join.l0] at H
      by_cases c3 : x6_1 < (l1.length : Int)
      · rw [if_pos c3] at H
        have c3b0 : decide (x6_1 < (l1.length : Int)) = true := decide_eq_true c3
        clear c3
        by_cases c4 : x6_1 > 0
        · rw [if_pos c4] at H
          have c4b0 : decide (0 < x6_1) = true := decide_eq_true c4
          clear c4
          by_cases c5 : x5_1.size + a0.size ≤ 9223372036854775807
          · rw [if_pos c5] at H
            have c5b0 := eq_true c5
            have c5b1 : decide (x5_1.size + a0.size ≤ 9223372036854775807) = true := decide_eq_true c5
            try have c5b2 : (9223372036854775807 < x5_1.size + a0.size) = False := eq_false (Nat.not_lt.2 c5)
            by_cases c6 : 0 ≤ x6_1
            · rw [if_pos c6] at H
              have c6b0 : decide (0 ≤ x6_1) = true := decide_eq_true c6
              clear c6
              by_cases c7 : (x5_1 ++ a0).size + (rdOf ByteArray.empty l1 x6_1).size ≤ 9223372036854775807
              · rw [if_pos c7] at H
                have c7b0 := eq_true c7
                have c7b1 : decide ((x5_1 ++ a0).size + (rdOf ByteArray.empty l1 x6_1).size ≤ 9223372036854775807) = true := decide_eq_true c7
                try have c7b2 : (9223372036854775807 < (x5_1 ++ a0).size + (rdOf ByteArray.empty l1 x6_1).size) = False := eq_false (Nat.not_lt.2 c7)
                have H' := Aside0.mk H
                clear H
                have p170 : 0 ≤ (x6_1 : Int) := of_decide_eq_true (by first | (with_reducible assumption) | assumption)
                have q170 : x6_1 < (l1.length : Int) := of_decide_eq_true (by first | (with_reducible assumption) | assumption)
                obtain ⟨ad170, e170, hx170_0⟩ := Kd.at_string HR1.out x6_1 p170 q170
                cases e170
                replace p170 := eq_true p170
                replace q170 := eq_true q170
                go_wp2
                go_roundg k1
                case measure => have := HK1.out; omega
                case rel => exact ⟨((x5_1 ++ a0) ++ (rdOf ByteArray.empty l1 x6_1)), (wrap64 (x6_1 + 1)), (by first | rfl | (simp; done) | (simp [*]; done)), (by first | rfl | (simp; done) | (simp [*]; done)), H', ⟨by have := HK1.out; omega⟩, by repeat (first | exact Drawn0.refl _ | apply Drawn0.step)⟩
              · rw [if_neg c7] at H
                exact absurd H (by simp)
            · rw [if_neg c6] at H
              exact absurd H (by simp)
          · rw [if_neg c5] at H
            exact absurd H (by simp)
        · rw [if_neg c4] at H
          have c4b0 : decide (0 < x6_1) = false := decide_eq_false c4
          clear c4
          by_cases c8 : 0 ≤ x6_1
          · rw [if_pos c8] at H
            have c8b0 : decide (0 ≤ x6_1) = true := decide_eq_true c8
            clear c8
            by_cases c9 : x5_1.size + (rdOf ByteArray.empty l1 x6_1).size ≤ 9223372036854775807
            · rw [if_pos c9] at H
              have c9b0 := eq_true c9
              have c9b1 : decide (x5_1.size + (rdOf ByteArray.empty l1 x6_1).size ≤ 9223372036854775807) = true := decide_eq_true c9
              try have c9b2 : (9223372036854775807 < x5_1.size + (rdOf ByteArray.empty l1 x6_1).size) = False := eq_false (Nat.not_lt.2 c9)
              have H' := Aside0.mk H
              clear H
              have p171 : 0 ≤ (x6_1 : Int) := of_decide_eq_true (by first | (with_reducible assumption) | assumption)
              have q171 : x6_1 < (l1.length : Int) := of_decide_eq_true (by first | (with_reducible assumption) | assumption)
              obtain ⟨ad171, e171, hx171_0⟩ := Kd.at_string HR1.out x6_1 p171 q171
              cases e171
              replace p171 := eq_true p171
              replace q171 := eq_true q171
              go_wp2
              go_roundg k1
              case measure => have := HK1.out; omega
              case rel => exact ⟨(x5_1 ++ (rdOf ByteArray.empty l1 x6_1)), (wrap64 (x6_1 + 1)), (by first | rfl | (simp; done) | (simp [*]; done)), (by first | rfl | (simp; done) | (simp [*]; done)), H', ⟨by have := HK1.out; omega⟩, by repeat (first | exact Drawn0.refl _ | apply Drawn0.step)⟩
            · rw [if_neg c9] at H
              exact absurd H (by simp)
          · rw [if_neg c8] at H
            exact absurd H (by simp)
      · rw [if_neg c3] at H
        have c3b0 : decide (x6_1 < (l1.length : Int)) = false := decide_eq_false c3
        clear c3
        obtain rfl := Option.some.inj H
        go_wp2
        go_ret
        exact ⟨by first | rfl | (simp; done) | (simp [*]; done), by repeat (first | exact Drawn0.refl _ | apply Drawn0.step)⟩

/-! ### ebbtidelaw02_WordParts: function 4 -/
def ebbtidelaw02_WordParts.j0 : Nat → ByteArray → Int → List ByteArray → Bool → Option (Bool)
  | 0, _, _, _, _ => none
  | k + 1, x0, x1, x2, x16 => if x16 = true then (some true) else ((some (([] : List ByteArray) : List ByteArray)).bind fun y174 => (if y174.length + x2.length < 8796093022208 then ((some (y174 ++ x2 : List ByteArray)).bind fun y177 => ((word_Split.f k x0 x1).bind fun t180 => ((ebbtideref02_Split.f k x0 x1).bind fun t183 => ((ebbtideref02_Same.f k t180 t183).bind fun t186 => (if t186 = true then ((word_Fields.f k x0).bind fun t187 => ((ebbtideref02_Fields.f k x0).bind fun t190 => ((ebbtideref02_Same.f k t187 t190).bind fun t193 => (if t193 = true then ((word_Join.f x0 y177).bind fun t194 => ((ebbtideref02_Join.f k x0 x2).bind fun t195 => (if t194.toList = t195.toList then ((ebbtideref02_Same.f k y177 x2).bind fun t196 => (some t196)) else (none)))) else (none))))) else (none)))))) else (none)))
def ebbtidelaw02_WordParts.f (k : Nat) (a0 : ByteArray) (a1 : Int) (l2 : List ByteArray) : Option (Bool) := (ebbtidelaw02_alive.f k).bind fun t172 => (if t172 = true then (if (a0.size : Int) > 1000 then (ebbtidelaw02_WordParts.j0 k a0 a1 l2 true) else ((ebbtidelaw02_great.f k l2).bind fun t173 => (ebbtidelaw02_WordParts.j0 k a0 a1 l2 t173))) else (none))
theorem ebbtidelaw02_WordParts.mono_l : ∀ k, (∀ y0 y1 y2 y3, LeO (ebbtidelaw02_WordParts.j0 k y0 y1 y2 y3) (ebbtidelaw02_WordParts.j0 (k + 1) y0 y1 y2 y3))
  | 0 => fun _ _ _ _ r h => by simp [ebbtidelaw02_WordParts.j0] at h
  | k + 1 => by
    have ih0 := ebbtidelaw02_WordParts.mono_l k
    · intro y0 y1 y2 y3
      unfold ebbtidelaw02_WordParts.j0
      repeat' first
      | (with_reducible exact ih0 _ _ _ _)
      | (with_reducible exact ebbtidelaw02_alive.mono _)
      | (with_reducible exact ebbtidelaw02_great.mono _ _)
      | (with_reducible exact ebbtideref02_Fields.mono _ _)
      | (with_reducible exact ebbtideref02_Join.mono _ _ _)
      | (with_reducible exact ebbtideref02_Same.mono _ _ _)
      | (with_reducible exact ebbtideref02_Split.mono _ _ _)
      | (with_reducible exact word_Fields.mono _ _)
      | (with_reducible exact word_Split.mono _ _ _)
      | (with_reducible exact LeO.refl _)
      | (with_reducible exact LeO.none _)
      | (with_reducible refine LeO.ite ?_ ?_)
      | (with_reducible refine LeO.bind ?_ (fun _ => ?_))
      | exact ih0 _ _ _ _
      | exact ebbtidelaw02_alive.mono _
      | exact ebbtidelaw02_great.mono _ _
      | exact ebbtideref02_Fields.mono _ _
      | exact ebbtideref02_Join.mono _ _ _
      | exact ebbtideref02_Same.mono _ _ _
      | exact ebbtideref02_Split.mono _ _ _
      | exact word_Fields.mono _ _
      | exact word_Split.mono _ _ _
      | exact LeO.none _
      | refine LeO.ite ?_ ?_
      | refine LeO.bind ?_ (fun _ => ?_)
theorem ebbtidelaw02_WordParts.mono : ∀ a0 a1 a2 k, LeO (ebbtidelaw02_WordParts.f k a0 a1 a2) (ebbtidelaw02_WordParts.f (k + 1) a0 a1 a2) := by
  intro a0 a1 a2 k
  have ih0 := ebbtidelaw02_WordParts.mono_l k
  unfold ebbtidelaw02_WordParts.f
  repeat' first
      | (with_reducible exact ih0 _ _ _ _)
      | (with_reducible exact ebbtidelaw02_alive.mono _)
      | (with_reducible exact ebbtidelaw02_great.mono _ _)
      | (with_reducible exact ebbtideref02_Fields.mono _ _)
      | (with_reducible exact ebbtideref02_Join.mono _ _ _)
      | (with_reducible exact ebbtideref02_Same.mono _ _ _)
      | (with_reducible exact ebbtideref02_Split.mono _ _ _)
      | (with_reducible exact word_Fields.mono _ _)
      | (with_reducible exact word_Split.mono _ _ _)
      | (with_reducible exact LeO.refl _)
      | (with_reducible exact LeO.none _)
      | (with_reducible refine LeO.ite ?_ ?_)
      | (with_reducible refine LeO.bind ?_ (fun _ => ?_))
      | exact ih0 _ _ _ _
      | exact ebbtidelaw02_alive.mono _
      | exact ebbtidelaw02_great.mono _ _
      | exact ebbtideref02_Fields.mono _ _
      | exact ebbtideref02_Join.mono _ _ _
      | exact ebbtideref02_Same.mono _ _ _
      | exact ebbtideref02_Split.mono _ _ _
      | exact word_Fields.mono _ _
      | exact word_Split.mono _ _ _
      | exact LeO.none _
      | refine LeO.ite ?_ ?_
      | refine LeO.bind ?_ (fun _ => ?_)
set_option maxHeartbeats 8000000 in
set_option maxRecDepth 100000 in
theorem ebbtidelaw02_WordParts.calls (k : Nat) (a0 : ByteArray) (a1 : Int) (A2 : Option Addr) (c2 : Nat) (l2 : List ByteArray) (r : Bool) (w : World) (hr2 : Kd.C Kd.string w A2 l2.length l2) (hc2 : l2.length ≤ c2) (h : ebbtidelaw02_WordParts.f k a0 a1 l2 = some r) :
    Calls Tryd.prog 4 #[.string a0, .int .u8 a1, .slice A2 l2.length c2] w fun e w' => e = .returned (.bool r) ∧ Below w.heap.size w w' := by
  have HR2 := Aside0.mk hr2
  have HC2 := Aside0.mk hc2
  clear hr2 hc2
  have HB := Aside0.mk (Below.refl w.heap.size w)
  have H : ((ebbtidelaw02_alive.f k).bind fun t172 => (if t172 = true then (if (a0.size : Int) > 1000 then (ebbtidelaw02_WordParts.j0 k a0 a1 l2 true) else ((ebbtidelaw02_great.f k l2).bind fun t173 => (ebbtidelaw02_WordParts.j0 k a0 a1 l2 t173))) else (none))) = some r := h
  clear h
  replace H := Option.bind_eq_some_iff.mp H
  obtain ⟨t172, A40, H⟩ := H
  replace H : (if t172 = true then (if (a0.size : Int) > 1000 then (ebbtidelaw02_WordParts.j0 k a0 a1 l2 true) else ((ebbtidelaw02_great.f k l2).bind fun t173 => (ebbtidelaw02_WordParts.j0 k a0 a1 l2 t173))) else (none)) = some r := H
  have A4 := Aside0.mk A40
  clear A40
  by_cases c5 : t172 = true
  · subst c5
    have H1 : (if (a0.size : Int) > 1000 then (ebbtidelaw02_WordParts.j0 k a0 a1 l2 true) else ((ebbtidelaw02_great.f k l2).bind fun t173 => (ebbtidelaw02_WordParts.j0 k a0 a1 l2 t173))) = some r := by rw [if_pos rfl] at H; exact H
    clear H
    have H := H1
    clear H1
    have HC6 := Aside0.mk H
    clear H
    go_enter Tryd.func4, Tryd.ntmps4
    go_upto_region 3 with (first | ((with_reducible refine gate_callee (f := 7) rfl ?_); refine goesL_ (some 8) rfl rfl Tryd.func7 (by kernel_rfl) rfl #[] rfl (by (try simp only [List.map_toArray, List.map_cons, List.map_nil]); first | done | rfl | (simp only [List.length_drop, List.length_take]; rfl)) ?_; (with_reducible refine (ebbtidelaw02_alive.calls k  true _ A4.out).mono ?_); rintro e w7 ⟨rfl, hb⟩; refine ⟨_, rfl, ?_⟩; have n0_ := Aside0.mk (below_step (by repeat (first | (with_reducible first | exact HB.out | apply below_alloc | apply pw_below_drewN | apply below_drew1) | exact HB.out)) hb); clear HB; have HB := n0_; clear n0_; (try clear hb); (try clear hb2); (try clear hk); (try clear hi)))
    (try simp only [Act.put, List.setIfInBounds_toArray, List.set_cons_zero, List.set_cons_succ])
    go_cut [16] (fun v16 wc => ∃ (kq : Nat) (x16_5 : Bool), v16 = .bool x16_5 ∧ Aside0 (ebbtidelaw02_WordParts.j0 kq a0 a1 l2 x16_5 = some r) ∧ Aside0 (kq ≤ k) ∧ Aside0 (Below w.heap.size w wc))
    case first =>
      have H := HC6.out
      clear HC6
      by_cases c8 : (a0.size : Int) > 1000
      · rw [if_pos c8] at H
        have c8b0 : decide (1000 < (a0.size : Int)) = true := decide_eq_true c8
        have c8b1 : decide (1000 < a0.size) = true := decide_eq_true (by omega)
        clear c8
        (first | rw [c8b0] | (simp only [i64_w, i32_w]; rw [c8b0]) | skip)
        have H' := Aside0.mk H
        clear H
        go_wp2
        go_meet
        case rel => exact ⟨_, (true), (by first | rfl | (simp; done) | (simp [*]; done)), H', ⟨by first | omega | exact Nat.le_refl _⟩, ⟨by repeat (first | (with_reducible first | exact HB.out | apply below_alloc | apply pw_below_drewN | apply below_drew1) | exact HB.out)⟩⟩
      · rw [if_neg c8] at H
        have c8b0 : decide (1000 < (a0.size : Int)) = false := decide_eq_false c8
        have c8b1 : decide (1000 < a0.size) = false := decide_eq_false (by omega)
        clear c8
        (first | rw [c8b0] | (simp only [i64_w, i32_w]; rw [c8b0]) | skip)
        replace H := Option.bind_eq_some_iff.mp H
        obtain ⟨t173, A90, H⟩ := H
        replace H : (ebbtidelaw02_WordParts.j0 k a0 a1 l2 t173) = some r := H
        have A9 := Aside0.mk A90
        clear A90
        have H' := Aside0.mk H
        clear H
        go_wp2_with (first | (go_at_call 12; (with_reducible refine (ebbtidelaw02_great.calls k _ _ l2 t173 _ ?side1 ?side2 A9.out).mono ?_); (case side1 => repeat (first | exact (Kd.C_below HR2.out HB.out) | (with_reducible refine Kd.C_alloc ?_ _) | (with_reducible refine Kd.C_drewN ?_ _) | (with_reducible refine Kd.C_drew ?_))); (case side2 => exact HC2.out); rintro e w' ⟨rfl, ⟨nd, rfl⟩⟩))
        go_meet
        case rel => exact ⟨_, (t173), (by first | rfl | (simp; done) | (simp [*]; done)), H', ⟨by first | omega | exact Nat.le_refl _⟩, ⟨by repeat (first | (with_reducible first | exact HB.out | apply below_alloc | apply pw_below_drewN | apply below_drew1) | exact HB.out)⟩⟩
    case rest =>
      clear HC6
      try clear c2
      try clear p2
      try clear c4
      try clear c5
      try clear c7
      try clear c8
      try clear c8b0
      try clear c8b1
      obtain ⟨kq, x16_5, rfl, HA, HJ5, HB⟩ := hcut
      cases kq with
      | zero => exact absurd HA.out (by simp [ebbtidelaw02_WordParts.j0])
      | succ kj5 =>
        have H := HA.out
        clear HA
        simp only [ebbtidelaw02_WordParts.j0] at H
        by_cases c10 : x16_5 = true
        · subst c10
          have H1 : (some true) = some r := by rw [if_pos rfl] at H; exact H
          clear H
          have H := H1
          clear H1
          obtain rfl := Option.some.inj H
          go_wp2
          go_ret
          exact ⟨by first | rfl | (simp [errW_none, errW_some] <;> rfl) | (simp [*, errW_none, errW_some] <;> rfl), by repeat (first | (with_reducible first | exact HB.out | apply below_alloc | apply pw_below_drewN | apply below_drew1) | exact HB.out)⟩
        · replace c10 := Bool.eq_false_iff.mpr c10
          subst c10
          have H1 : ((some (([] : List ByteArray) : List ByteArray)).bind fun y174 => (if y174.length + l2.length < 8796093022208 then ((some (y174 ++ l2 : List ByteArray)).bind fun y177 => ((word_Split.f kj5 a0 a1).bind fun t180 => ((ebbtideref02_Split.f kj5 a0 a1).bind fun t183 => ((ebbtideref02_Same.f kj5 t180 t183).bind fun t186 => (if t186 = true then ((word_Fields.f kj5 a0).bind fun t187 => ((ebbtideref02_Fields.f kj5 a0).bind fun t190 => ((ebbtideref02_Same.f kj5 t187 t190).bind fun t193 => (if t193 = true then ((word_Join.f a0 y177).bind fun t194 => ((ebbtideref02_Join.f kj5 a0 l2).bind fun t195 => (if t194.toList = t195.toList then ((ebbtideref02_Same.f kj5 y177 l2).bind fun t196 => (some t196)) else (none)))) else (none))))) else (none)))))) else (none))) = some r := by rw [if_neg (show ¬ (false = true) by decide)] at H; exact H
          clear H
          have H := H1
          clear H1
          obtain ⟨y174, hy174⟩ : ∃ y_ : List ByteArray, y_ = (([] : List ByteArray)) := ⟨_, rfl⟩
          replace H : (if y174.length + l2.length < 8796093022208 then ((some (y174 ++ l2 : List ByteArray)).bind fun y177 => ((word_Split.f kj5 a0 a1).bind fun t180 => ((ebbtideref02_Split.f kj5 a0 a1).bind fun t183 => ((ebbtideref02_Same.f kj5 t180 t183).bind fun t186 => (if t186 = true then ((word_Fields.f kj5 a0).bind fun t187 => ((ebbtideref02_Fields.f kj5 a0).bind fun t190 => ((ebbtideref02_Same.f kj5 t187 t190).bind fun t193 => (if t193 = true then ((word_Join.f a0 y177).bind fun t194 => ((ebbtideref02_Join.f kj5 a0 l2).bind fun t195 => (if t194.toList = t195.toList then ((ebbtideref02_Same.f kj5 y177 l2).bind fun t196 => (some t196)) else (none)))) else (none))))) else (none)))))) else (none)) = some r := by first | (rw [hy174]; with_reducible exact H) | (have H2_ := (Option.bind_some _ _).symm.trans H; rw [hy174]; with_reducible exact H2_) | (have H2_ := (Option.bind_some _ _).symm.trans H; with_reducible exact H2_) | with_reducible exact H | (rw [hy174]; exact H) | exact H
          have Ny174 := Aside0.mk hy174
          clear hy174
          by_cases c11 : y174.length + l2.length < 8796093022208
          · rw [if_pos c11] at H
            have LMc11 := Aside0.mk c11
            clear c11
            obtain ⟨y177, hy177⟩ : ∃ y_ : List ByteArray, y_ = (y174 ++ l2) := ⟨_, rfl⟩
            replace H : ((word_Split.f kj5 a0 a1).bind fun t180 => ((ebbtideref02_Split.f kj5 a0 a1).bind fun t183 => ((ebbtideref02_Same.f kj5 t180 t183).bind fun t186 => (if t186 = true then ((word_Fields.f kj5 a0).bind fun t187 => ((ebbtideref02_Fields.f kj5 a0).bind fun t190 => ((ebbtideref02_Same.f kj5 t187 t190).bind fun t193 => (if t193 = true then ((word_Join.f a0 y177).bind fun t194 => ((ebbtideref02_Join.f kj5 a0 l2).bind fun t195 => (if t194.toList = t195.toList then ((ebbtideref02_Same.f kj5 y177 l2).bind fun t196 => (some t196)) else (none)))) else (none))))) else (none))))) = some r := by first | (rw [hy177]; with_reducible exact H) | (have H2_ := (Option.bind_some _ _).symm.trans H; rw [hy177]; with_reducible exact H2_) | (have H2_ := (Option.bind_some _ _).symm.trans H; with_reducible exact H2_) | with_reducible exact H | (rw [hy177]; exact H) | exact H
            have Ny177 := Aside0.mk hy177
            clear hy177
            replace H := Option.bind_eq_some_iff.mp H
            obtain ⟨t180, A120, H⟩ := H
            replace H : ((ebbtideref02_Split.f kj5 a0 a1).bind fun t183 => ((ebbtideref02_Same.f kj5 t180 t183).bind fun t186 => (if t186 = true then ((word_Fields.f kj5 a0).bind fun t187 => ((ebbtideref02_Fields.f kj5 a0).bind fun t190 => ((ebbtideref02_Same.f kj5 t187 t190).bind fun t193 => (if t193 = true then ((word_Join.f a0 y177).bind fun t194 => ((ebbtideref02_Join.f kj5 a0 l2).bind fun t195 => (if t194.toList = t195.toList then ((ebbtideref02_Same.f kj5 y177 l2).bind fun t196 => (some t196)) else (none)))) else (none))))) else (none)))) = some r := H
            have A12 := Aside0.mk A120
            clear A120
            replace H := Option.bind_eq_some_iff.mp H
            obtain ⟨t183, A130, H⟩ := H
            replace H : ((ebbtideref02_Same.f kj5 t180 t183).bind fun t186 => (if t186 = true then ((word_Fields.f kj5 a0).bind fun t187 => ((ebbtideref02_Fields.f kj5 a0).bind fun t190 => ((ebbtideref02_Same.f kj5 t187 t190).bind fun t193 => (if t193 = true then ((word_Join.f a0 y177).bind fun t194 => ((ebbtideref02_Join.f kj5 a0 l2).bind fun t195 => (if t194.toList = t195.toList then ((ebbtideref02_Same.f kj5 y177 l2).bind fun t196 => (some t196)) else (none)))) else (none))))) else (none))) = some r := H
            have A13 := Aside0.mk A130
            clear A130
            replace H := Option.bind_eq_some_iff.mp H
            obtain ⟨t186, A140, H⟩ := H
            replace H : (if t186 = true then ((word_Fields.f kj5 a0).bind fun t187 => ((ebbtideref02_Fields.f kj5 a0).bind fun t190 => ((ebbtideref02_Same.f kj5 t187 t190).bind fun t193 => (if t193 = true then ((word_Join.f a0 y177).bind fun t194 => ((ebbtideref02_Join.f kj5 a0 l2).bind fun t195 => (if t194.toList = t195.toList then ((ebbtideref02_Same.f kj5 y177 l2).bind fun t196 => (some t196)) else (none)))) else (none))))) else (none)) = some r := H
            have A14 := Aside0.mk A140
            clear A140
            by_cases c15 : t186 = true
            · subst c15
              have H1 : ((word_Fields.f kj5 a0).bind fun t187 => ((ebbtideref02_Fields.f kj5 a0).bind fun t190 => ((ebbtideref02_Same.f kj5 t187 t190).bind fun t193 => (if t193 = true then ((word_Join.f a0 y177).bind fun t194 => ((ebbtideref02_Join.f kj5 a0 l2).bind fun t195 => (if t194.toList = t195.toList then ((ebbtideref02_Same.f kj5 y177 l2).bind fun t196 => (some t196)) else (none)))) else (none))))) = some r := by rw [if_pos rfl] at H; exact H
              clear H
              have H := H1
              clear H1
              replace H := Option.bind_eq_some_iff.mp H
              obtain ⟨t187, A160, H⟩ := H
              replace H : ((ebbtideref02_Fields.f kj5 a0).bind fun t190 => ((ebbtideref02_Same.f kj5 t187 t190).bind fun t193 => (if t193 = true then ((word_Join.f a0 y177).bind fun t194 => ((ebbtideref02_Join.f kj5 a0 l2).bind fun t195 => (if t194.toList = t195.toList then ((ebbtideref02_Same.f kj5 y177 l2).bind fun t196 => (some t196)) else (none)))) else (none)))) = some r := H
              have A16 := Aside0.mk A160
              clear A160
              replace H := Option.bind_eq_some_iff.mp H
              obtain ⟨t190, A170, H⟩ := H
              replace H : ((ebbtideref02_Same.f kj5 t187 t190).bind fun t193 => (if t193 = true then ((word_Join.f a0 y177).bind fun t194 => ((ebbtideref02_Join.f kj5 a0 l2).bind fun t195 => (if t194.toList = t195.toList then ((ebbtideref02_Same.f kj5 y177 l2).bind fun t196 => (some t196)) else (none)))) else (none))) = some r := H
              have A17 := Aside0.mk A170
              clear A170
              replace H := Option.bind_eq_some_iff.mp H
              obtain ⟨t193, A180, H⟩ := H
              replace H : (if t193 = true then ((word_Join.f a0 y177).bind fun t194 => ((ebbtideref02_Join.f kj5 a0 l2).bind fun t195 => (if t194.toList = t195.toList then ((ebbtideref02_Same.f kj5 y177 l2).bind fun t196 => (some t196)) else (none)))) else (none)) = some r := H
              have A18 := Aside0.mk A180
              clear A180
              by_cases c19 : t193 = true
              · subst c19
                have H1 : ((word_Join.f a0 y177).bind fun t194 => ((ebbtideref02_Join.f kj5 a0 l2).bind fun t195 => (if t194.toList = t195.toList then ((ebbtideref02_Same.f kj5 y177 l2).bind fun t196 => (some t196)) else (none)))) = some r := by rw [if_pos rfl] at H; exact H
                clear H
                have H := H1
                clear H1
                replace H := Option.bind_eq_some_iff.mp H
                obtain ⟨t194, A200, H⟩ := H
                replace H : ((ebbtideref02_Join.f kj5 a0 l2).bind fun t195 => (if t194.toList = t195.toList then ((ebbtideref02_Same.f kj5 y177 l2).bind fun t196 => (some t196)) else (none))) = some r := H
                have A20 := Aside0.mk A200
                clear A200
                replace H := Option.bind_eq_some_iff.mp H
                obtain ⟨t195, A210, H⟩ := H
                replace H : (if t194.toList = t195.toList then ((ebbtideref02_Same.f kj5 y177 l2).bind fun t196 => (some t196)) else (none)) = some r := H
                have A21 := Aside0.mk A210
                clear A210
                by_cases c22 : t194.toList = t195.toList
                · rw [if_pos c22] at H
                  have c22b0 : (t194.toList == t195.toList) = true := beq_iff_eq.mpr c22
                  have c22b1 : (t194.toList != t195.toList) = false := bne_eq_false_iff_eq.mpr c22
                  clear c22
                  replace H := Option.bind_eq_some_iff.mp H
                  obtain ⟨t196, A230, H⟩ := H
                  replace H : (some t196) = some r := H
                  have A23 := Aside0.mk A230
                  clear A230
                  obtain rfl := Option.some.inj H
                  go_wp2_with (first | ((with_reducible refine gate_dst (N := 17) rfl ?_); refine Kd.R_lit Kd.string _ 9 ?hg (N := 17) ?hd (xs := ([] : List ByteArray)) (inner := []) (ok := fun _ => True) (okp := fun _ => True) ?hr ?hp (fun _ hk => hk) trivial (Below.refl _ _) (Nat.le_refl _) (by simp) ?_; (case hd => rfl); (case hg => rfl); (case hr => first | (go_simp; done) | (go_simp; rfl)); (case hp => exact (Reps.none _ _)); intro v175 w24 ho25 hb hg_ hnew_; clear hg_ hnew_; (first | rw [← Ny174.out] at ho25 | (simp only [Int.reduceToNat] at ho25; rw [← Ny174.out] at ho25)); have n0_ := Aside0.mk (Kd.R_lower ho25 (below_size (by repeat (first | (with_reducible first | exact HB.out | apply below_alloc | apply pw_below_drewN | apply below_drew1) | exact HB.out)))); have n1_ := Aside0.mk (below_step (by repeat (first | (with_reducible first | exact HB.out | apply below_alloc | apply pw_below_drewN | apply below_drew1) | exact HB.out)) hb); clear HB; have HO176 := n0_; have HB := n1_; clear n0_ n1_; clear hb ho25) | ((with_reducible refine gate_builtin (b := .append) (xs := #[.tmp 17, .tmp 18]) rfl ?_); at_builtin; refine Kd.R_append_rows Kd.string (w0 := w) w.heap.size rfl (.tmp 17) (.tmp 18) 24 9 (.string ⟨#[]⟩) 16 rfl Tryd.underlying24 info9 rfl (by decide) (by omega) v175 y174 l2 _ _ _ (fun _ => True) (fun _ => False) rfl rfl ?aO ?aR (fun _ _ h => h) (fun _ h => h.elim) ?aF ?aB ?aS ?aL ?_; (case aR => repeat (first | exact (Kd.C_below HR2.out HB.out) | (with_reducible refine Kd.C_alloc ?_ _) | (with_reducible refine Kd.C_drewN ?_ _) | (with_reducible refine Kd.C_drew ?_))); (case aB => exact (by repeat (first | (with_reducible first | exact HB.out | apply below_alloc | apply pw_below_drewN | apply below_drew1) | exact HB.out))); (case aF => exact (fun _ _ => trivial)); (case aO => exact (by (with_reducible repeat (first | apply Kd.R_alloc | apply Kd.R_drewN | apply Kd.R_drew)); exact HO176.out)); (case aS => exact (below_size (by repeat (first | (with_reducible first | exact HB.out | apply below_alloc | apply pw_below_drewN | apply below_drew1) | exact HB.out)))); (case aL => have := LMc11.out; omega); intro v178 w26 ho hb hg hat; rw [← Ny177.out] at ho; have n0_ := Aside0.mk (hb); have n1_ := Aside0.mk (ho); clear HB; clear HO176; have HB := n0_; have HO179 := n1_; clear n0_ n1_; clear ho hb hg hat) | ((with_reducible refine gate_callee (f := 14) rfl ?_); refine goesL_ (some 22) rfl rfl Tryd.func14 (by kernel_rfl) rfl #[.string a0, .int .u8 a1] rfl (by (try simp only [List.map_toArray, List.map_cons, List.map_nil]); first | done | rfl | (simp only [List.length_drop, List.length_take]; rfl)) ?_; (with_reducible refine (word_Split.calls kj5 a0 a1 t180 _ A12.out).mono ?_); rintro e w27 ⟨v181, rfl, ho0, hb⟩; refine ⟨_, rfl, ?_⟩; have n0_ := Aside0.mk (Kd.R_elder' (by (with_reducible repeat (first | apply Kd.R_alloc | apply Kd.R_drewN | apply Kd.R_drew)); exact HO179.out) (Kd.R_base ho0) hb); have n1_ := Aside0.mk (Kd.R_lower (Kd.R_new' ho0 (Kd.R_lt (by (with_reducible repeat (first | apply Kd.R_alloc | apply Kd.R_drewN | apply Kd.R_drew)); exact HO179.out))) (below_size (by repeat (first | (with_reducible first | exact HB.out | apply below_alloc | apply pw_below_drewN | apply below_drew1) | exact HB.out)))); have n2_ := Aside0.mk (below_step (by repeat (first | (with_reducible first | exact HB.out | apply below_alloc | apply pw_below_drewN | apply below_drew1) | exact HB.out)) hb); clear HO179; clear HB; have HO179 := n0_; have HO182 := n1_; have HB := n2_; clear n0_ n1_ n2_; (try clear hb); (try clear hb2); (try clear hk); (try clear hi); (try clear ho0)) | ((with_reducible refine gate_callee (f := 15) rfl ?_); refine goesL_ (some 25) rfl rfl Tryd.func15 (by kernel_rfl) rfl #[.string a0, .int .u8 a1] rfl (by (try simp only [List.map_toArray, List.map_cons, List.map_nil]); first | done | rfl | (simp only [List.length_drop, List.length_take]; rfl)) ?_; (with_reducible refine (ebbtideref02_Split.calls kj5 a0 a1 t183 _ A13.out).mono ?_); rintro e w28 ⟨v184, rfl, ho0, hb⟩; refine ⟨_, rfl, ?_⟩; have n0_ := Aside0.mk (Kd.R_elder' (by (with_reducible repeat (first | apply Kd.R_alloc | apply Kd.R_drewN | apply Kd.R_drew)); exact HO179.out) (Kd.R_base ho0) hb); have n1_ := Aside0.mk (Kd.R_elder' (by (with_reducible repeat (first | apply Kd.R_alloc | apply Kd.R_drewN | apply Kd.R_drew)); exact HO182.out) (Kd.R_base ho0) hb); have n2_ := Aside0.mk (Kd.R_lower (Kd.R_new' (Kd.R_new' ho0 (Kd.R_lt (by (with_reducible repeat (first | apply Kd.R_alloc | apply Kd.R_drewN | apply Kd.R_drew)); exact HO179.out))) (Kd.R_lt (by (with_reducible repeat (first | apply Kd.R_alloc | apply Kd.R_drewN | apply Kd.R_drew)); exact HO182.out))) (below_size (by repeat (first | (with_reducible first | exact HB.out | apply below_alloc | apply pw_below_drewN | apply below_drew1) | exact HB.out)))); have n3_ := Aside0.mk (below_step (by repeat (first | (with_reducible first | exact HB.out | apply below_alloc | apply pw_below_drewN | apply below_drew1) | exact HB.out)) hb); clear HO179; clear HO182; clear HB; have HO179 := n0_; have HO182 := n1_; have HO185 := n2_; have HB := n3_; clear n0_ n1_ n2_ n3_; (try clear hb); (try clear hb2); (try clear hk); (try clear hi); (try clear ho0); obtain ⟨Ao29, co29, eo29⟩ := Kd.R_slice HO182.out; subst eo29; obtain ⟨Ao30, co30, eo30⟩ := Kd.R_slice HO185.out; subst eo30) | ((with_reducible refine gate_callee (f := 13) rfl ?_); refine goesL_ (some 26) rfl rfl Tryd.func13 (by kernel_rfl) rfl #[.slice Ao29 t180.length co29, .slice Ao30 t183.length co30] rfl (by (try simp only [List.map_toArray, List.map_cons, List.map_nil]); first | done | rfl | (simp only [List.length_drop, List.length_take]; rfl)) ?_; (with_reducible refine (ebbtideref02_Same.calls kj5 _ _ t180 _ _ t183 true _ ?side1 ?side2 ?side3 ?side4 A14.out).mono ?_); (case side1 => repeat (first | exact (Kd.R_reads' HO182.out).2.2 | (with_reducible refine Kd.C_alloc ?_ _) | (with_reducible refine Kd.C_drewN ?_ _) | (with_reducible refine Kd.C_drew ?_))); (case side2 => exact (Kd.R_reads' HO182.out).2.1); (case side3 => repeat (first | exact (Kd.R_reads' HO185.out).2.2 | (with_reducible refine Kd.C_alloc ?_ _) | (with_reducible refine Kd.C_drewN ?_ _) | (with_reducible refine Kd.C_drew ?_))); (case side4 => exact (Kd.R_reads' HO185.out).2.1); rintro e w' ⟨rfl, ⟨nd, rfl⟩⟩; refine ⟨_, rfl, ?_⟩) | (go_at_call 16; (with_reducible refine (word_Fields.calls kj5 a0 t187 _ A16.out).mono ?_); rintro e w31 ⟨v188, rfl, ho0, hb⟩; have n0_ := Aside0.mk (Kd.R_elder' (by (with_reducible repeat (first | apply Kd.R_alloc | apply Kd.R_drewN | apply Kd.R_drew)); exact HO179.out) (Kd.R_base ho0) hb); have n1_ := Aside0.mk (Kd.R_elder' (by (with_reducible repeat (first | apply Kd.R_alloc | apply Kd.R_drewN | apply Kd.R_drew)); exact HO182.out) (Kd.R_base ho0) hb); have n2_ := Aside0.mk (Kd.R_elder' (by (with_reducible repeat (first | apply Kd.R_alloc | apply Kd.R_drewN | apply Kd.R_drew)); exact HO185.out) (Kd.R_base ho0) hb); have n3_ := Aside0.mk (Kd.R_lower (Kd.R_new' (Kd.R_new' (Kd.R_new' ho0 (Kd.R_lt (by (with_reducible repeat (first | apply Kd.R_alloc | apply Kd.R_drewN | apply Kd.R_drew)); exact HO179.out))) (Kd.R_lt (by (with_reducible repeat (first | apply Kd.R_alloc | apply Kd.R_drewN | apply Kd.R_drew)); exact HO182.out))) (Kd.R_lt (by (with_reducible repeat (first | apply Kd.R_alloc | apply Kd.R_drewN | apply Kd.R_drew)); exact HO185.out))) (below_size (by repeat (first | (with_reducible first | exact HB.out | apply below_alloc | apply pw_below_drewN | apply below_drew1) | exact HB.out)))); have n4_ := Aside0.mk (below_step (by repeat (first | (with_reducible first | exact HB.out | apply below_alloc | apply pw_below_drewN | apply below_drew1) | exact HB.out)) hb); clear HO179; clear HO182; clear HO185; clear HB; have HO179 := n0_; have HO182 := n1_; have HO185 := n2_; have HO189 := n3_; have HB := n4_; clear n0_ n1_ n2_ n3_ n4_; (try clear hb); (try clear hb2); (try clear hk); (try clear hi); (try clear ho0)) | (go_at_call 17; (with_reducible refine (ebbtideref02_Fields.calls kj5 a0 t190 _ A17.out).mono ?_); rintro e w32 ⟨v191, rfl, ho0, hb⟩; have n0_ := Aside0.mk (Kd.R_elder' (by (with_reducible repeat (first | apply Kd.R_alloc | apply Kd.R_drewN | apply Kd.R_drew)); exact HO179.out) (Kd.R_base ho0) hb); have n1_ := Aside0.mk (Kd.R_elder' (by (with_reducible repeat (first | apply Kd.R_alloc | apply Kd.R_drewN | apply Kd.R_drew)); exact HO182.out) (Kd.R_base ho0) hb); have n2_ := Aside0.mk (Kd.R_elder' (by (with_reducible repeat (first | apply Kd.R_alloc | apply Kd.R_drewN | apply Kd.R_drew)); exact HO185.out) (Kd.R_base ho0) hb); have n3_ := Aside0.mk (Kd.R_elder' (by (with_reducible repeat (first | apply Kd.R_alloc | apply Kd.R_drewN | apply Kd.R_drew)); exact HO189.out) (Kd.R_base ho0) hb); have n4_ := Aside0.mk (Kd.R_lower (Kd.R_new' (Kd.R_new' (Kd.R_new' (Kd.R_new' ho0 (Kd.R_lt (by (with_reducible repeat (first | apply Kd.R_alloc | apply Kd.R_drewN | apply Kd.R_drew)); exact HO179.out))) (Kd.R_lt (by (with_reducible repeat (first | apply Kd.R_alloc | apply Kd.R_drewN | apply Kd.R_drew)); exact HO182.out))) (Kd.R_lt (by (with_reducible repeat (first | apply Kd.R_alloc | apply Kd.R_drewN | apply Kd.R_drew)); exact HO185.out))) (Kd.R_lt (by (with_reducible repeat (first | apply Kd.R_alloc | apply Kd.R_drewN | apply Kd.R_drew)); exact HO189.out))) (below_size (by repeat (first | (with_reducible first | exact HB.out | apply below_alloc | apply pw_below_drewN | apply below_drew1) | exact HB.out)))); have n5_ := Aside0.mk (below_step (by repeat (first | (with_reducible first | exact HB.out | apply below_alloc | apply pw_below_drewN | apply below_drew1) | exact HB.out)) hb); clear HO179; clear HO182; clear HO185; clear HO189; clear HB; have HO179 := n0_; have HO182 := n1_; have HO185 := n2_; have HO189 := n3_; have HO192 := n4_; have HB := n5_; clear n0_ n1_ n2_ n3_ n4_ n5_; (try clear hb); (try clear hb2); (try clear hk); (try clear hi); (try clear ho0); obtain ⟨Ao33, co33, eo33⟩ := Kd.R_slice HO189.out; subst eo33; obtain ⟨Ao34, co34, eo34⟩ := Kd.R_slice HO192.out; subst eo34) | (go_at_call 13; (with_reducible refine (ebbtideref02_Same.calls kj5 _ _ t187 _ _ t190 true _ ?side1 ?side2 ?side3 ?side4 A18.out).mono ?_); (case side1 => repeat (first | exact (Kd.R_reads' HO189.out).2.2 | (with_reducible refine Kd.C_alloc ?_ _) | (with_reducible refine Kd.C_drewN ?_ _) | (with_reducible refine Kd.C_drew ?_))); (case side2 => exact (Kd.R_reads' HO189.out).2.1); (case side3 => repeat (first | exact (Kd.R_reads' HO192.out).2.2 | (with_reducible refine Kd.C_alloc ?_ _) | (with_reducible refine Kd.C_drewN ?_ _) | (with_reducible refine Kd.C_drew ?_))); (case side4 => exact (Kd.R_reads' HO192.out).2.1); rintro e w' ⟨rfl, ⟨nd, rfl⟩⟩; obtain ⟨Ao35, co35, eo35⟩ := Kd.R_slice HO179.out; subst eo35) | (go_at_call 18; (with_reducible refine (word_Join.calls a0 _ _ y177 t194 _ ?side1 ?side2 A20.out).mono ?_); (case side1 => repeat (first | exact (Kd.R_reads' HO179.out).2.2 | (with_reducible refine Kd.C_alloc ?_ _) | (with_reducible refine Kd.C_drewN ?_ _) | (with_reducible refine Kd.C_drew ?_))); (case side2 => exact (Kd.R_reads' HO179.out).2.1); rintro e w36 ⟨rfl, hb⟩; have n0_ := Aside0.mk (Kd.R_below (by (with_reducible repeat (first | apply Kd.R_alloc | apply Kd.R_drewN | apply Kd.R_drew)); exact HO179.out) hb); have n1_ := Aside0.mk (Kd.R_below (by (with_reducible repeat (first | apply Kd.R_alloc | apply Kd.R_drewN | apply Kd.R_drew)); exact HO182.out) hb); have n2_ := Aside0.mk (Kd.R_below (by (with_reducible repeat (first | apply Kd.R_alloc | apply Kd.R_drewN | apply Kd.R_drew)); exact HO185.out) hb); have n3_ := Aside0.mk (Kd.R_below (by (with_reducible repeat (first | apply Kd.R_alloc | apply Kd.R_drewN | apply Kd.R_drew)); exact HO189.out) hb); have n4_ := Aside0.mk (Kd.R_below (by (with_reducible repeat (first | apply Kd.R_alloc | apply Kd.R_drewN | apply Kd.R_drew)); exact HO192.out) hb); have n5_ := Aside0.mk (below_step (by repeat (first | (with_reducible first | exact HB.out | apply below_alloc | apply pw_below_drewN | apply below_drew1) | exact HB.out)) hb); clear HO179; clear HO182; clear HO185; clear HO189; clear HO192; clear HB; have HO179 := n0_; have HO182 := n1_; have HO185 := n2_; have HO189 := n3_; have HO192 := n4_; have HB := n5_; clear n0_ n1_ n2_ n3_ n4_ n5_; (try clear hb); (try clear hb2); (try clear hk); (try clear hi)) | (go_at_call 19; (with_reducible refine (ebbtideref02_Join.calls kj5 a0 _ _ l2 t195 _ ?side1 ?side2 A21.out).mono ?_); (case side1 => repeat (first | exact (Kd.C_below HR2.out HB.out) | (with_reducible refine Kd.C_alloc ?_ _) | (with_reducible refine Kd.C_drewN ?_ _) | (with_reducible refine Kd.C_drew ?_))); (case side2 => exact HC2.out); rintro e w' ⟨rfl, ⟨nd, rfl⟩⟩) | (go_at_call 13; (with_reducible refine (ebbtideref02_Same.calls kj5 _ _ y177 _ _ l2 t196 _ ?side1 ?side2 ?side3 ?side4 A23.out).mono ?_); (case side1 => repeat (first | exact (Kd.R_reads' HO179.out).2.2 | (with_reducible refine Kd.C_alloc ?_ _) | (with_reducible refine Kd.C_drewN ?_ _) | (with_reducible refine Kd.C_drew ?_))); (case side2 => exact (Kd.R_reads' HO179.out).2.1); (case side3 => repeat (first | exact (Kd.C_below HR2.out (by repeat (first | (with_reducible first | exact HB.out | apply below_alloc | apply pw_below_drewN | apply below_drew1) | exact HB.out))) | (with_reducible refine Kd.C_alloc ?_ _) | (with_reducible refine Kd.C_drewN ?_ _) | (with_reducible refine Kd.C_drew ?_))); (case side4 => exact HC2.out); rintro e w' ⟨rfl, ⟨nd, rfl⟩⟩))
                  go_ret
                  exact ⟨by first | rfl | (simp [errW_none, errW_some] <;> rfl) | (simp [*, errW_none, errW_some] <;> rfl), by repeat (first | (with_reducible first | exact HB.out | apply below_alloc | apply pw_below_drewN | apply below_drew1) | exact HB.out)⟩
                · rw [if_neg c22] at H
                  exact absurd H (by simp)
              · replace c19 := Bool.eq_false_iff.mpr c19
                subst c19
                have H1 : (none) = some r := by rw [if_neg (show ¬ (false = true) by decide)] at H; exact H
                clear H
                have H := H1
                clear H1
                exact absurd H (by simp)
            · replace c15 := Bool.eq_false_iff.mpr c15
              subst c15
              have H1 : (none) = some r := by rw [if_neg (show ¬ (false = true) by decide)] at H; exact H
              clear H
              have H := H1
              clear H1
              exact absurd H (by simp)
          · rw [if_neg c11] at H
            exact absurd H (by simp)
  · replace c5 := Bool.eq_false_iff.mpr c5
    subst c5
    have H1 : (none) = some r := by rw [if_neg (show ¬ (false = true) by decide)] at H; exact H
    clear H
    have H := H1
    clear H1
    exact absurd H (by simp)

/-- THE ONE PURE STATEMENT of ebbtidelaw02_WordParts. -/
def ebbtidelaw02_WordParts.Pure : Prop := ∀ (a0 : ByteArray) (a1 : Int) (l2 : List ByteArray), (a0.size ≤ 140737488351232) → ((Lit.int .u8 a1).wf = true) → (l2.length ≤ maxLen ∧ ∀ x0_ ∈ l2, x0_.size ≤ 140737488351232) → l2.length * 16 ≤ 140737488351232 → ∃ k, ebbtidelaw02_WordParts.f k a0 a1 l2 = some true
theorem ebbtidelaw02_WordParts.walk (P : ebbtidelaw02_WordParts.Pure) (a0 : ByteArray) (a1 : Int) (l2 : List ByteArray) (w : World) (A2 : Option Addr) (c2 : Nat) (hr2 : Kd.C Kd.string w A2 l2.length l2) (hc2 : l2.length ≤ c2) (q0 : a0.size ≤ 140737488351232) (q1 : (Lit.int .u8 a1).wf = true) (q2 : l2.length ≤ maxLen ∧ ∀ x0_ ∈ l2, x0_.size ≤ 140737488351232) (y2 : l2.length * 16 ≤ 140737488351232) :
    Calls Tryd.prog 4 #[.string a0, .int .u8 a1, .slice A2 l2.length c2] w fun e w' => e = .returned (.bool true) ∧ Below w.heap.size w w' := by
  obtain ⟨k, h⟩ := P a0 a1 l2 q0 q1 q2 y2
  refine (ebbtidelaw02_WordParts.calls k a0 a1 A2 c2 l2 true w hr2 hc2 h).mono ?_
  rintro e w' ⟨rfl, hd⟩
  exact ⟨rfl, hd⟩

end Go.Proofs.YtigkkkhkejcakaaDoor.X
