/- Printed by a program of this session's own: what functions of the program compute, and that the machine computes it. No condition of its own. -/
import Derived.Test.YtklhjponikgkkaaM3
namespace Go.Proofs.Ytklhjponikgkkaa.X
open Go.RowKit Go.Proofs.YtklhjponikgkkaaW.PrintWords Go.Proofs.YtklhjponikgkkaaW.PrintLast Go.Proofs.YtklhjponikgkkaaW.PrintMore
attribute [local go_sem] max2_int min2_int max_two min_two max_three min_three max_four min_four
set_option linter.unusedVariables false
set_option linter.unusedSimpArgs false
set_option maxHeartbeats 8000000
set_option maxRecDepth 100000
def r11_Great.l0 : Nat → Int → List (S70) → Option (Bool)
 | 0, _, _ => none
 | k + 1, x3, x343000 => if x3 < (x343000.length : Int) then (if 0 ≤ x3 then (if (((rd_T70 x343000 x3).f2).length : Int) > 100 then (some true) else (if (((rd_T70 x343000 x3).f1).size : Int) > 300 then (some true) else (r11_Great.l0 k (wrap64 (x3 + 1)) x343000))) else (none)) else (some false)
def r11_Great.f (k : Nat) (l0_0 : List (S70)) : Option (Bool) := if (l0_0.length : Int) > 100 then (some true) else (r11_Great.l0 k 0 l0_0)
theorem r11_Great.mono_l : ∀ k, (∀ y0 y1, LeC (r11_Great.l0 k y0 y1) (r11_Great.l0 (k + 1) y0 y1))
 | 0 => fun _ _ => ⟨fun r h => by simp [r11_Great.l0] at h⟩
 | k + 1 => by have ih0 := r11_Great.mono_l k; exact fun _ _ => by unfold r11_Great.l0; exact lm
theorem r11_Great.mono : ∀ a0 k, LeO (r11_Great.f k a0) (r11_Great.f (k + 1) a0) := by
 intro a0 k
 have ih0 := r11_Great.mono_l k
 unfold r11_Great.f
 exact lo
instance r11_Great.mI {a0 k} : LeC (r11_Great.f k a0) (r11_Great.f (k + 1) a0) := ⟨r11_Great.mono _ _⟩
theorem r11_Great.calls (k : Nat) (A0_0 : Option Addr) (c0_0 : Nat) (l0_0 : List (S70)) (r : Bool) (w : World) (hr0_0 : Kd.C k70 w A0_0 l0_0.length l0_0) (hc0_0 : l0_0.length ≤ c0_0) (h : r11_Great.f k l0_0 = some r) :
 Calls Try.prog 30 #[.agg #[.slice A0_0 l0_0.length c0_0]] w fun e w' => e = .returned (.bool r) ∧ Below w.heap.size w w' := by
 have hu50 := Try.underlying50
 have HR0_0 := Aside0.mk hr0_0
 have HC0_0 := Aside0.mk hc0_0
 clear hr0_0 hc0_0
 have HB := Aside0.mk (Below.refl w.heap.size w)
 have H : (if (l0_0.length : Int) > 100 then (some true) else (r11_Great.l0 k 0 l0_0)) = some r := h
 clear h
 by_cases c2 : (l0_0.length : Int) > 100
 ·
  rw [if_pos c2] at H
  have c2b0 : decide (100 < (l0_0.length : Int)) = true := decide_eq_true c2
  have c2b1 : decide (100 < l0_0.length) = true := decide_eq_true (by omega)
  clear c2
  obtain rfl := Option.some.inj H
  go_enter Try.func30, Try.ntmps30
  go_wp2_with (first | ((with_reducible refine gate_dst (N := 1) rfl ?_); (try (refine gate_guard (by rfl) ?_; dsimp only)); refine bx (N := 1) #[.slice A0_0 l0_0.length c0_0] 50 ?_; intro gb342 hg w3 hbox hb; have BK342 := Aside0.mk (hbox); have GW342 := gw hg (uW HB.out); have GE342 := GW342; replace HB := cW HB hb; clear hb hbox hg; obtain ⟨hcz4_0, hfz4_0⟩ := z1 BK342))
  go_ret
  exact ⟨re_, bl⟩
 ·
  rw [if_neg c2] at H
  have c2b0 : decide (100 < (l0_0.length : Int)) = false := decide_eq_false c2
  have c2b1 : decide (100 < l0_0.length) = false := decide_eq_false (by omega)
  clear c2
  have H' := Aside0.mk H
  clear H
  go_enter Try.func30, Try.ntmps30
  go_wp2_with (first | ((with_reducible refine gate_dst (N := 1) rfl ?_); (try (refine gate_guard (by rfl) ?_; dsimp only)); refine bx (N := 1) #[.slice A0_0 l0_0.length c0_0] 50 ?_; intro gb342 hg w5 hbox hb; have BK342 := Aside0.mk (hbox); have GW342 := gw hg (uW HB.out); have GE342 := GW342; replace HB := cW HB hb; clear hb hbox hg; obtain ⟨hcz6_0, hfz6_0⟩ := z1 BK342))
  go_loopg [3] k (fun kq v3 w' => ∃ (x3_1 : Int), v3 = .int .i64 x3_1 ∧ Aside0 (r11_Great.l0 kq x3_1 l0_0 = some r) ∧ Aside0 (kq ≤ k) ∧ Aside0 (w'.heap[gb342]? = some (.cells #[(.slice A0_0 l0_0.length c0_0)] 50 (0, 0))) ∧ Aside0 (Below w.heap.size w w'))
  case atStart => exact ⟨(0), rs_, H', ⟨Nat.le_refl _⟩, ⟨uB BK342.out⟩, ⟨bl⟩⟩
  case round =>
   clear H'
   try clear c2
   try clear c2b0
   try clear c2b1
   try clear hcz6_0 hfz6_0
   obtain ⟨x3_1, rfl, HA, HK1, BK342, HB⟩ := hrel
   cases gk with
   | zero => exact absurd HA.out (by simp [r11_Great.l0])
   | succ k1 =>
    have H := HA.out
    clear HA
    simp only [r11_Great.l0] at H
    by_cases c7 : x3_1 < (l0_0.length : Int)
    ·
     rw [if_pos c7] at H
     have c7b0 : decide (x3_1 < (l0_0.length : Int)) = true := decide_eq_true c7
     clear c7
     obtain ⟨c8b0, H⟩ := gdd H
     by_cases c9 : (((rd_T70 l0_0 x3_1).f2).length : Int) > 100
     ·
      rw [if_pos c9] at H
      have c9b0 : decide (100 < (((rd_T70 l0_0 x3_1).f2).length : Int)) = true := decide_eq_true c9
      have c9b1 : decide (100 < ((rd_T70 l0_0 x3_1).f2).length) = true := decide_eq_true (by omega)
      clear c9
      obtain rfl := Option.some.inj H
      obtain ⟨hcz10_0, hfz10_0⟩ := z1 BK342
      have p343 : 0 ≤ (x3_1 : Int) := od
      have q343 : x3_1 < (l0_0.length : Int) := od
      obtain ⟨ad343, A343_2, c343_2, e343, hx343_0, hx343_1, hx343_2, hl343_2, hi343_2⟩ := at_T70 HR0_0.out x3_1 p343 q343
      cases e343
      replace hx343_0 := kc HB hx343_0
      replace hx343_1 := kc HB hx343_1
      replace hx343_2 := kc HB hx343_2
      have HR343_2 := Aside0.mk hi343_2
      have HC343_2 := Aside0.mk hl343_2
      clear hi343_2 hl343_2
      replace p343 := eq_true p343
      replace q343 := eq_true q343
      go_wp2
      go_ret
      exact ⟨re_, bl⟩
     ·
      rw [if_neg c9] at H
      have c9b0 : decide (100 < (((rd_T70 l0_0 x3_1).f2).length : Int)) = false := decide_eq_false c9
      have c9b1 : decide (100 < ((rd_T70 l0_0 x3_1).f2).length) = false := decide_eq_false (by omega)
      clear c9
      by_cases c11 : (((rd_T70 l0_0 x3_1).f1).size : Int) > 300
      ·
       rw [if_pos c11] at H
       have c11b0 : decide (300 < (((rd_T70 l0_0 x3_1).f1).size : Int)) = true := decide_eq_true c11
       have c11b1 : decide (300 < ((rd_T70 l0_0 x3_1).f1).size) = true := decide_eq_true (by omega)
       clear c11
       obtain rfl := Option.some.inj H
       obtain ⟨hcz12_0, hfz12_0⟩ := z1 BK342
       have p343 : 0 ≤ (x3_1 : Int) := od
       have q343 : x3_1 < (l0_0.length : Int) := od
       obtain ⟨ad343, A343_2, c343_2, e343, hx343_0, hx343_1, hx343_2, hl343_2, hi343_2⟩ := at_T70 HR0_0.out x3_1 p343 q343
       cases e343
       replace hx343_0 := kc HB hx343_0
       replace hx343_1 := kc HB hx343_1
       replace hx343_2 := kc HB hx343_2
       have HR343_2 := Aside0.mk hi343_2
       have HC343_2 := Aside0.mk hl343_2
       clear hi343_2 hl343_2
       replace p343 := eq_true p343
       replace q343 := eq_true q343
       have p344 : 0 ≤ (x3_1 : Int) := od
       have q344 : x3_1 < (l0_0.length : Int) := od
       obtain ⟨ad344, A344_2, c344_2, e344, hx344_0, hx344_1, hx344_2, hl344_2, hi344_2⟩ := at_T70 HR0_0.out x3_1 p344 q344
       obtain rfl : ad343 = ad344 := (by injection e344)
       replace hx344_0 := kc HB hx344_0
       replace hx344_1 := kc HB hx344_1
       replace hx344_2 := kc HB hx344_2
       have HR344_2 := Aside0.mk hi344_2
       have HC344_2 := Aside0.mk hl344_2
       clear hi344_2 hl344_2
       replace p344 := eq_true p344
       replace q344 := eq_true q344
       have ea_ := Option.some.inj (hx343_2.symm.trans hx344_2)
       injection ea_ with ea_ en_ ec_
       subst ea_
       subst ec_
       clear en_
       go_wp2
       go_ret
       exact ⟨re_, bl⟩
      ·
       rw [if_neg c11] at H
       have c11b0 : decide (300 < (((rd_T70 l0_0 x3_1).f1).size : Int)) = false := decide_eq_false c11
       have c11b1 : decide (300 < ((rd_T70 l0_0 x3_1).f1).size) = false := decide_eq_false (by omega)
       clear c11
       have H' := Aside0.mk H
       clear H
       obtain ⟨hcz13_0, hfz13_0⟩ := z1 BK342
       have p343 : 0 ≤ (x3_1 : Int) := od
       have q343 : x3_1 < (l0_0.length : Int) := od
       obtain ⟨ad343, A343_2, c343_2, e343, hx343_0, hx343_1, hx343_2, hl343_2, hi343_2⟩ := at_T70 HR0_0.out x3_1 p343 q343
       cases e343
       replace hx343_0 := kc HB hx343_0
       replace hx343_1 := kc HB hx343_1
       replace hx343_2 := kc HB hx343_2
       have HR343_2 := Aside0.mk hi343_2
       have HC343_2 := Aside0.mk hl343_2
       clear hi343_2 hl343_2
       replace p343 := eq_true p343
       replace q343 := eq_true q343
       have p344 : 0 ≤ (x3_1 : Int) := od
       have q344 : x3_1 < (l0_0.length : Int) := od
       obtain ⟨ad344, A344_2, c344_2, e344, hx344_0, hx344_1, hx344_2, hl344_2, hi344_2⟩ := at_T70 HR0_0.out x3_1 p344 q344
       obtain rfl : ad343 = ad344 := (by injection e344)
       replace hx344_0 := kc HB hx344_0
       replace hx344_1 := kc HB hx344_1
       replace hx344_2 := kc HB hx344_2
       have HR344_2 := Aside0.mk hi344_2
       have HC344_2 := Aside0.mk hl344_2
       clear hi344_2 hl344_2
       replace p344 := eq_true p344
       replace q344 := eq_true q344
       have ea_ := Option.some.inj (hx343_2.symm.trans hx344_2)
       injection ea_ with ea_ en_ ec_
       subst ea_
       subst ec_
       clear en_
       go_wp2
       go_roundg k1
       case measure => have := HK1.out; omega
       case rel => exact ⟨(wrap64 (x3_1 + 1)), rs_, H', ⟨by have := HK1.out; omega⟩, ⟨uB BK342.out⟩, ⟨bl⟩⟩
    ·
     rw [if_neg c7] at H
     have c7b0 : decide (x3_1 < (l0_0.length : Int)) = false := decide_eq_false c7
     clear c7
     obtain rfl := Option.some.inj H
     obtain ⟨hcz14_0, hfz14_0⟩ := z1 BK342
     go_wp2
     go_ret
     exact ⟨re_, bl⟩
def r16_Great.l0 : Nat → List (S50) → Int → Option (Bool)
 | 0, _, _ => none
 | k + 1, x0, x3 => if x3 < (x0.length : Int) then (if 0 ≤ x3 then ((r11_Great.f k ((rd_T50 x0 x3).f0)).bind fun t346 => (if t346 = true then (some true) else (if (((rd_T50 x0 x3).f0).length : Int) > 30 then (some true) else (r16_Great.l0 k x0 (wrap64 (x3 + 1)))))) else (none)) else (some false)
def r16_Great.f (k : Nat) (l0 : List (S50)) : Option (Bool) := if (l0.length : Int) > 8 then (some true) else (r16_Great.l0 k l0 0)
theorem r16_Great.mono_l : ∀ k, (∀ y0 y1, LeC (r16_Great.l0 k y0 y1) (r16_Great.l0 (k + 1) y0 y1))
 | 0 => fun _ _ => ⟨fun r h => by simp [r16_Great.l0] at h⟩
 | k + 1 => by have ih0 := r16_Great.mono_l k; exact fun _ _ => by unfold r16_Great.l0; exact lm
theorem r16_Great.mono : ∀ a0 k, LeO (r16_Great.f k a0) (r16_Great.f (k + 1) a0) := by
 intro a0 k
 have ih0 := r16_Great.mono_l k
 unfold r16_Great.f
 exact lo
instance r16_Great.mI {a0 k} : LeC (r16_Great.f k a0) (r16_Great.f (k + 1) a0) := ⟨r16_Great.mono _ _⟩
theorem r16_Great.calls (k : Nat) (A0 : Option Addr) (c0 : Nat) (l0 : List (S50)) (r : Bool) (w : World) (hr0 : Kd.C k50 w A0 l0.length l0) (hc0 : l0.length ≤ c0) (h : r16_Great.f k l0 = some r) :
 Calls Try.prog 11 #[.slice A0 l0.length c0] w fun e w' => e = .returned (.bool r) ∧ Below w.heap.size w w' := by
 have hu50 := Try.underlying50
 have HR0 := Aside0.mk hr0
 have HC0 := Aside0.mk hc0
 clear hr0 hc0
 have HB := Aside0.mk (Below.refl w.heap.size w)
 have H : (if (l0.length : Int) > 8 then (some true) else (r16_Great.l0 k l0 0)) = some r := h
 clear h
 by_cases c2 : (l0.length : Int) > 8
 ·
  rw [if_pos c2] at H
  have c2b0 : decide (8 < (l0.length : Int)) = true := decide_eq_true c2
  have c2b1 : decide (8 < l0.length) = true := decide_eq_true (by omega)
  clear c2
  obtain rfl := Option.some.inj H
  go_enter Try.func11, Try.ntmps11
  go_wp2
  go_ret
  exact ⟨re_, uW HB.out⟩
 ·
  rw [if_neg c2] at H
  have c2b0 : decide (8 < (l0.length : Int)) = false := decide_eq_false c2
  have c2b1 : decide (8 < l0.length) = false := decide_eq_false (by omega)
  clear c2
  have H' := Aside0.mk H
  clear H
  go_enter Try.func11, Try.ntmps11
  go_wp2
  go_loopg [3] k (fun kq v3 w' => ∃ (x3_1 : Int), v3 = .int .i64 x3_1 ∧ Aside0 (r16_Great.l0 kq l0 x3_1 = some r) ∧ Aside0 (kq ≤ k) ∧ Aside0 (Below w.heap.size w w'))
  case atStart => exact ⟨(0), rs_, H', ⟨Nat.le_refl _⟩, ⟨uW HB.out⟩⟩
  case round =>
   clear H'
   try clear c2
   try clear c2b0
   try clear c2b1
   obtain ⟨x3_1, rfl, HA, HK1, HB⟩ := hrel
   cases gk with
   | zero => exact absurd HA.out (by simp [r16_Great.l0])
   | succ k1 =>
    have H := HA.out
    clear HA
    simp only [r16_Great.l0] at H
    by_cases c3 : x3_1 < (l0.length : Int)
    ·
     rw [if_pos c3] at H
     have c3b0 : decide (x3_1 < (l0.length : Int)) = true := decide_eq_true c3
     clear c3
     obtain ⟨c4b0, H⟩ := gdd H
     obtain ⟨t346, A5, H⟩ := bs H
     try dsimp only at H
     by_cases c6 : t346 = true
     ·
      subst c6
      rw [if_pos rfl] at H
      obtain rfl := Option.some.inj H
      have p345 : 0 ≤ (x3_1 : Int) := od
      have q345 : x3_1 < (l0.length : Int) := od
      obtain ⟨ad345, A345_0, c345_0, e345, hx345_0, hl345_0, hi345_0⟩ := at_T50 HR0.out x3_1 p345 q345
      cases e345
      replace hx345_0 := kc HB hx345_0
      have HR345_0 := Aside0.mk hi345_0
      have HC345_0 := Aside0.mk hl345_0
      clear hi345_0 hl345_0
      replace p345 := eq_true p345
      replace q345 := eq_true q345
      go_wp2_with (first | (refine gL (some 17) rfl Try.func30 #[.agg #[.slice A345_0 ((rd_T50 l0 x3_1).f0).length c345_0]] ?_; (with_reducible refine (r11_Great.calls k1 _ _ ((rd_T50 l0 x3_1).f0) true _ ?side1 ?side2 A5.out).mono ?_); (case side1 => exact uC <| (Kd.C_below HR345_0.out HB.out)); (case side2 => exact HC345_0.out); rintro e w7 ⟨rfl, hb⟩; refine ⟨_, rfl, ?_⟩; replace HB := cW HB hb; (try clear hb)))
      go_ret
      exact ⟨re_, uW HB.out⟩
     ·
      replace c6 := Bool.eq_false_iff.mpr c6
      subst c6
      rw [if_neg (show ¬ (false = true) by decide)] at H
      by_cases c8 : (((rd_T50 l0 x3_1).f0).length : Int) > 30
      ·
       rw [if_pos c8] at H
       have c8b0 : decide (30 < (((rd_T50 l0 x3_1).f0).length : Int)) = true := decide_eq_true c8
       have c8b1 : decide (30 < ((rd_T50 l0 x3_1).f0).length) = true := decide_eq_true (by omega)
       clear c8
       obtain rfl := Option.some.inj H
       have p345 : 0 ≤ (x3_1 : Int) := od
       have q345 : x3_1 < (l0.length : Int) := od
       obtain ⟨ad345, A345_0, c345_0, e345, hx345_0, hl345_0, hi345_0⟩ := at_T50 HR0.out x3_1 p345 q345
       cases e345
       replace hx345_0 := kc HB hx345_0
       have HR345_0 := Aside0.mk hi345_0
       have HC345_0 := Aside0.mk hl345_0
       clear hi345_0 hl345_0
       replace p345 := eq_true p345
       replace q345 := eq_true q345
       go_wp2_with (first | (refine gL (some 17) rfl Try.func30 #[.agg #[.slice A345_0 ((rd_T50 l0 x3_1).f0).length c345_0]] ?_; (with_reducible refine (r11_Great.calls k1 _ _ ((rd_T50 l0 x3_1).f0) false _ ?side1 ?side2 A5.out).mono ?_); (case side1 => exact uC <| (Kd.C_below HR345_0.out HB.out)); (case side2 => exact HC345_0.out); rintro e w9 ⟨rfl, hb⟩; refine ⟨_, rfl, ?_⟩; replace HB := cW HB hb; (try clear hb); have p347 : 0 ≤ (x3_1 : Int) := od; have q347 : x3_1 < (l0.length : Int) := od; obtain ⟨ad347, A347_0, c347_0, e347, hx347_0, hl347_0, hi347_0⟩ := at_T50 HR0.out x3_1 p347 q347; obtain rfl : ad345 = ad347 := (by injection e347); replace hx347_0 := kc HB hx347_0; have HR347_0 := Aside0.mk hi347_0; have HC347_0 := Aside0.mk hl347_0; clear hi347_0 hl347_0; replace p347 := eq_true p347; replace q347 := eq_true q347))
       go_ret
       exact ⟨re_, uW HB.out⟩
      ·
       rw [if_neg c8] at H
       have c8b0 : decide (30 < (((rd_T50 l0 x3_1).f0).length : Int)) = false := decide_eq_false c8
       have c8b1 : decide (30 < ((rd_T50 l0 x3_1).f0).length) = false := decide_eq_false (by omega)
       clear c8
       have H' := Aside0.mk H
       clear H
       have p345 : 0 ≤ (x3_1 : Int) := od
       have q345 : x3_1 < (l0.length : Int) := od
       obtain ⟨ad345, A345_0, c345_0, e345, hx345_0, hl345_0, hi345_0⟩ := at_T50 HR0.out x3_1 p345 q345
       cases e345
       replace hx345_0 := kc HB hx345_0
       have HR345_0 := Aside0.mk hi345_0
       have HC345_0 := Aside0.mk hl345_0
       clear hi345_0 hl345_0
       replace p345 := eq_true p345
       replace q345 := eq_true q345
       go_wp2_with (first | (refine gL (some 17) rfl Try.func30 #[.agg #[.slice A345_0 ((rd_T50 l0 x3_1).f0).length c345_0]] ?_; (with_reducible refine (r11_Great.calls k1 _ _ ((rd_T50 l0 x3_1).f0) false _ ?side1 ?side2 A5.out).mono ?_); (case side1 => exact uC <| (Kd.C_below HR345_0.out HB.out)); (case side2 => exact HC345_0.out); rintro e w10 ⟨rfl, hb⟩; refine ⟨_, rfl, ?_⟩; replace HB := cW HB hb; (try clear hb); have p347 : 0 ≤ (x3_1 : Int) := od; have q347 : x3_1 < (l0.length : Int) := od; obtain ⟨ad347, A347_0, c347_0, e347, hx347_0, hl347_0, hi347_0⟩ := at_T50 HR0.out x3_1 p347 q347; obtain rfl : ad345 = ad347 := (by injection e347); replace hx347_0 := kc HB hx347_0; have HR347_0 := Aside0.mk hi347_0; have HC347_0 := Aside0.mk hl347_0; clear hi347_0 hl347_0; replace p347 := eq_true p347; replace q347 := eq_true q347))
       go_roundg k1
       case measure => have := HK1.out; omega
       case rel => exact ⟨(wrap64 (x3_1 + 1)), rs_, H', ⟨by have := HK1.out; omega⟩, ⟨uW HB.out⟩⟩
    ·
     rw [if_neg c3] at H
     have c3b0 : decide (x3_1 < (l0.length : Int)) = false := decide_eq_false c3
     clear c3
     obtain rfl := Option.some.inj H
     go_wp2
     go_ret
     exact ⟨re_, uW HB.out⟩
def r10_At.l0 : Nat → List (S96) → Int → Int → Int → Int → Bool → Int → Int → Option (Int × Int × Bool × Int × Int)
 | 0, _, _, _, _, _, _, _, _ => none
 | k + 1, x0, x1, x6, x350000, x350001, x350002, x350003, x350004 => if x6 < (x0.length : Int) then (if 0 ≤ x6 then (if ((rd_T96 x0 x6).f0) ≤ x1 then (r10_At.l0 k x0 x1 (wrap64 (x6 + 1)) ((rd_T96 x0 x6).f1.f0) ((rd_T96 x0 x6).f1.f1.f0) ((rd_T96 x0 x6).f1.f1.f1) ((rd_T96 x0 x6).f1.f2) ((rd_T96 x0 x6).f1.f3)) else (r10_At.l0 k x0 x1 (wrap64 (x6 + 1)) x350000 x350001 x350002 x350003 x350004)) else (none)) else (some (x350000, x350001, x350002, x350003, x350004))
def r10_At.f (k : Nat) (l0 : List (S96)) (a1 : Int) : Option (Int × Int × Bool × Int × Int) := r10_At.l0 k l0 a1 0 0 0 false 0 0
theorem r10_At.mono_l : ∀ k, (∀ y0 y1 y2 y3 y4 y5 y6 y7, LeC (r10_At.l0 k y0 y1 y2 y3 y4 y5 y6 y7) (r10_At.l0 (k + 1) y0 y1 y2 y3 y4 y5 y6 y7))
 | 0 => fun _ _ _ _ _ _ _ _ => ⟨fun r h => by simp [r10_At.l0] at h⟩
 | k + 1 => by have ih0 := r10_At.mono_l k; exact fun _ _ _ _ _ _ _ _ => by unfold r10_At.l0; exact lm
theorem r10_At.mono : ∀ a0 a1 k, LeO (r10_At.f k a0 a1) (r10_At.f (k + 1) a0 a1) := by
 intro a0 a1 k
 have ih0 := r10_At.mono_l k
 unfold r10_At.f
 exact lo
instance r10_At.mI {a0 a1 k} : LeC (r10_At.f k a0 a1) (r10_At.f (k + 1) a0 a1) := ⟨r10_At.mono _ _ _⟩
theorem r10_At.calls (k : Nat) (A0 : Option Addr) (c0 : Nat) (l0 : List (S96)) (a1 : Int) (r1 : Int) (r2 : Int) (r3 : Bool) (r4 : Int) (r5 : Int) (w : World) (hr0 : Kd.C k96 w A0 l0.length l0) (hc0 : l0.length ≤ c0) (h : r10_At.f k l0 a1 = some (r1, r2, r3, r4, r5)) :
 Calls Try.prog 36 #[.slice A0 l0.length c0, .int .i64 a1] w fun e w' => e = .returned (.agg #[.int .i64 r1, .int .i64 r2, .bool r3, .int .i64 r4, .int .i64 r5]) ∧ Below w.heap.size w w' := by
 have hu54 := Try.underlying54
 have HR0 := Aside0.mk hr0
 have HC0 := Aside0.mk hc0
 clear hr0 hc0
 have HB := Aside0.mk (Below.refl w.heap.size w)
 have H : (r10_At.l0 k l0 a1 0 0 0 false 0 0) = some (r1, r2, r3, r4, r5) := h
 clear h
 have H' := Aside0.mk H
 clear H
 go_enter Try.func36, Try.ntmps36
 go_wp2_with (first | ((with_reducible refine gate_dst (N := 4) rfl ?_); refine bx (N := 4) #[.int .i64 0, .int .i64 0, .bool false, .int .i64 0, .int .i64 0] 54 ?_; intro gb348 hg w3 hbox hb; have BK348 := Aside0.mk (hbox); have GW348 := gw hg (uW HB.out); have GE348 := GW348; replace HB := cW HB hb; clear hb hbox hg) | ((with_reducible refine gate_dst (N := 5) rfl ?_); refine bx (N := 5) #[.int .i64 0, .int .i64 0, .bool false, .int .i64 0, .int .i64 0] 54 ?_; intro gb349 hg w4 hbox hb; have BK349 := Aside0.mk (hbox); have GW349 := gw hg bl; have GE349 := GW349; replace HB := Aside0.mk (below_step bl hb); have NB348_349 := nl BK348 hg; have NB349_348 := nr BK348 hg; replace BK348 := cB BK348 hb; clear hb hbox hg; have hnb5 := NB349_348.out; have hnc5 := NB348_349.out; obtain ⟨hcz6_0, hcz6_1, hcz6_2, hcz6_3, hcz6_4, hfz6_0, hfz6_1, hfz6_2, hfz6_3, hfz6_4⟩ := z5 BK349) | ((with_reducible refine gate_store (t := 54) (p := 5) rfl ?_); refine store_event (t := 54) (p := 5) (v := ?vo_w7) (w1 := (((((w4.setCell ⟨gb349, 0, none⟩ (.int .i64 0)).setCell ⟨gb349, 1, none⟩ (.int .i64 0)).setCell ⟨gb349, 2, none⟩ (.bool false)).setCell ⟨gb349, 3, none⟩ (.int .i64 0)).setCell ⟨gb349, 4, none⟩ (.int .i64 0))) ?hg ?ho ?hn ?hr ?_; (case ho => rfl); (case hg => rfl); (case hn => rfl); (case hr => first | (go_simp; done) | (go_simp; rfl)); intro w7 hw; replace BK348 := fgF hw BK348 NB348_349; replace HB : Aside0 (Below w.heap.size w w7) := fgW hw bl; replace BK349 := fgB hw BK349; clear hw))
 go_loopg [6] k (fun kq v6 w' => ∃ (x6_1 : Int) (x350000_1 : Int) (x350001_1 : Int) (x350002_1 : Bool) (x350003_1 : Int) (x350004_1 : Int), v6 = .int .i64 x6_1 ∧ Aside0 (r10_At.l0 kq l0 a1 x6_1 x350000_1 x350001_1 x350002_1 x350003_1 x350004_1 = some (r1, r2, r3, r4, r5)) ∧ Aside0 (kq ≤ k) ∧ Aside0 (w'.heap[gb348]? = some (.cells #[.int .i64 0, .int .i64 0, .bool false, .int .i64 0, .int .i64 0] 54 (0, 0))) ∧ Aside0 (w'.heap[gb349]? = some (.cells #[.int .i64 x350000_1, .int .i64 x350001_1, .bool x350002_1, .int .i64 x350003_1, .int .i64 x350004_1] 54 (0, 0))) ∧ Aside0 (Below w.heap.size w w'))
 case atStart => exact ⟨(0), (0), (0), (false), (0), (0), rs_, H', ⟨Nat.le_refl _⟩, ⟨uB BK348.out⟩, ⟨uB BK349.out⟩, ⟨bl⟩⟩
 case round =>
  clear H'
  try clear hcz6_0 hcz6_1 hcz6_2 hcz6_3 hcz6_4 hfz6_0 hfz6_1 hfz6_2 hfz6_3 hfz6_4
  obtain ⟨x6_1, x350000_1, x350001_1, x350002_1, x350003_1, x350004_1, rfl, HA, HK1, BK348, BK349, HB⟩ := hrel
  cases gk with
  | zero => exact absurd HA.out (by simp [r10_At.l0])
  | succ k1 =>
   have H := HA.out
   clear HA
   simp only [r10_At.l0] at H
   by_cases c8 : x6_1 < (l0.length : Int)
   ·
    rw [if_pos c8] at H
    have c8b0 : decide (x6_1 < (l0.length : Int)) = true := decide_eq_true c8
    clear c8
    obtain ⟨c9b0, H⟩ := gdd H
    by_cases c10 : ((rd_T96 l0 x6_1).f0) ≤ a1
    ·
     rw [if_pos c10] at H
     have c10b0 : decide (((rd_T96 l0 x6_1).f0) ≤ a1) = true := decide_eq_true c10
     clear c10
     have H' := Aside0.mk H
     clear H
     have p350 : 0 ≤ (x6_1 : Int) := od
     have q350 : x6_1 < (l0.length : Int) := od
     obtain ⟨ad350, e350, hx350_0, hx350_1, hx350_2, hx350_3, hx350_4, hx350_5⟩ := at_T96 HR0.out x6_1 p350 q350
     cases e350
     replace hx350_0 := kc HB hx350_0
     replace hx350_1 := kc HB hx350_1
     replace hx350_2 := kc HB hx350_2
     replace hx350_3 := kc HB hx350_3
     replace hx350_4 := kc HB hx350_4
     replace hx350_5 := kc HB hx350_5
     replace p350 := eq_true p350
     replace q350 := eq_true q350
     have p351 : 0 ≤ (x6_1 : Int) := od
     have q351 : x6_1 < (l0.length : Int) := od
     obtain ⟨ad351, e351, hx351_0, hx351_1, hx351_2, hx351_3, hx351_4, hx351_5⟩ := at_T96 HR0.out x6_1 p351 q351
     obtain rfl : ad350 = ad351 := (by injection e351)
     replace hx351_0 := kc HB hx351_0
     replace hx351_1 := kc HB hx351_1
     replace hx351_2 := kc HB hx351_2
     replace hx351_3 := kc HB hx351_3
     replace hx351_4 := kc HB hx351_4
     replace hx351_5 := kc HB hx351_5
     replace p351 := eq_true p351
     replace q351 := eq_true q351
     have hnb11 := NB349_348.out
     have hnc11 := NB348_349.out
     obtain ⟨hcz12_0, hcz12_1, hcz12_2, hcz12_3, hcz12_4, hfz12_0, hfz12_1, hfz12_2, hfz12_3, hfz12_4⟩ := z5 BK349
     go_wp2_with (first | ((with_reducible refine gate_store (t := 54) (p := 5) rfl ?_); refine store_event (t := 54) (p := 5) (v := ?vo_w13) (w1 := (((((wr.setCell ⟨gb349, 0, none⟩ (.int .i64 ((rd_T96 l0 x6_1).f1.f0))).setCell ⟨gb349, 1, none⟩ (.int .i64 ((rd_T96 l0 x6_1).f1.f1.f0))).setCell ⟨gb349, 2, none⟩ (.bool ((rd_T96 l0 x6_1).f1.f1.f1))).setCell ⟨gb349, 3, none⟩ (.int .i64 ((rd_T96 l0 x6_1).f1.f2))).setCell ⟨gb349, 4, none⟩ (.int .i64 ((rd_T96 l0 x6_1).f1.f3)))) ?hg ?ho ?hn ?hr ?_; (case ho => rfl); (case hg => rfl); (case hn => rfl); (case hr => first | (go_simp; done) | (go_simp; rfl)); intro w13 hw; replace BK348 := fgF hw BK348 NB348_349; replace HB : Aside0 (Below w.heap.size w w13) := fgW hw bl; replace BK349 := fgB hw BK349; clear hw))
     go_roundg k1
     case measure => have := HK1.out; omega
     case rel => exact ⟨(wrap64 (x6_1 + 1)), ((rd_T96 l0 x6_1).f1.f0), ((rd_T96 l0 x6_1).f1.f1.f0), ((rd_T96 l0 x6_1).f1.f1.f1), ((rd_T96 l0 x6_1).f1.f2), ((rd_T96 l0 x6_1).f1.f3), rs_, H', ⟨by have := HK1.out; omega⟩, ⟨uB BK348.out⟩, ⟨uB BK349.out⟩, ⟨bl⟩⟩
    ·
     rw [if_neg c10] at H
     have c10b0 : decide (((rd_T96 l0 x6_1).f0) ≤ a1) = false := decide_eq_false c10
     clear c10
     have H' := Aside0.mk H
     clear H
     have p350 : 0 ≤ (x6_1 : Int) := od
     have q350 : x6_1 < (l0.length : Int) := od
     obtain ⟨ad350, e350, hx350_0, hx350_1, hx350_2, hx350_3, hx350_4, hx350_5⟩ := at_T96 HR0.out x6_1 p350 q350
     cases e350
     replace hx350_0 := kc HB hx350_0
     replace hx350_1 := kc HB hx350_1
     replace hx350_2 := kc HB hx350_2
     replace hx350_3 := kc HB hx350_3
     replace hx350_4 := kc HB hx350_4
     replace hx350_5 := kc HB hx350_5
     replace p350 := eq_true p350
     replace q350 := eq_true q350
     go_wp2
     go_roundg k1
     case measure => have := HK1.out; omega
     case rel => exact ⟨(wrap64 (x6_1 + 1)), (x350000_1), (x350001_1), (x350002_1), (x350003_1), (x350004_1), rs_, H', ⟨by have := HK1.out; omega⟩, ⟨uB BK348.out⟩, ⟨uB BK349.out⟩, ⟨bl⟩⟩
   ·
    rw [if_neg c8] at H
    have c8b0 : decide (x6_1 < (l0.length : Int)) = false := decide_eq_false c8
    clear c8
    simp only [Option.some.injEq, Prod.mk.injEq] at H
    obtain ⟨rfl, rfl, rfl, rfl, rfl⟩ := H
    have hnb14 := NB349_348.out
    have hnc14 := NB348_349.out
    obtain ⟨hcz15_0, hcz15_1, hcz15_2, hcz15_3, hcz15_4, hfz15_0, hfz15_1, hfz15_2, hfz15_3, hfz15_4⟩ := z5 BK349
    obtain ⟨hcz16_0, hcz16_1, hcz16_2, hcz16_3, hcz16_4, hfz16_0, hfz16_1, hfz16_2, hfz16_3, hfz16_4⟩ := z5 BK348
    go_wp2_with (first | ((with_reducible refine gate_store (t := 54) (p := 4) rfl ?_); refine store_event (t := 54) (p := 4) (v := ?vo_w17) (w1 := (((((wr.setCell ⟨gb348, 0, none⟩ (.int .i64 x350000_1)).setCell ⟨gb348, 1, none⟩ (.int .i64 x350001_1)).setCell ⟨gb348, 2, none⟩ (.bool x350002_1)).setCell ⟨gb348, 3, none⟩ (.int .i64 x350003_1)).setCell ⟨gb348, 4, none⟩ (.int .i64 x350004_1))) ?hg ?ho ?hn ?hr ?_; (case ho => rfl); (case hg => rfl); (case hn => rfl); (case hr => first | (go_simp; done) | (go_simp; rfl)); intro w17 hw; replace BK349 := fgF hw BK349 NB349_348; replace HB : Aside0 (Below w.heap.size w w17) := fgW hw bl; replace BK348 := fgB hw BK348; clear hw))
    refine bodyPost_ret (results_cell_row rfl _ _ gb348 54 #[.int .i64 x350000_1, .int .i64 x350001_1, .bool x350002_1, .int .i64 x350003_1, .int .i64 x350004_1] (0, 0) _ rfl (uB BK348.out) Try.underlying54 rfl (by kernel_rfl)) rfl ?_
    exact ⟨re_, bl⟩
def r11_Dropped.l0 : Nat → List (S46) → Int → Int → Int → Option (Bool)
 | 0, _, _, _, _ => none
 | k + 1, x0, x1, x2, x7 => if x7 < (x0.length : Int) then (if 0 ≤ x7 then (if ((rd_T46 x0 x7).f0) = x1 then (if ((rd_T46 x0 x7).f1) ≤ x2 then (some true) else (r11_Dropped.l0 k x0 x1 x2 (wrap64 (x7 + 1)))) else (r11_Dropped.l0 k x0 x1 x2 (wrap64 (x7 + 1)))) else (none)) else (some false)
def r11_Dropped.f (k : Nat) (l0 : List (S46)) (a1 : Int) (a2 : Int) : Option (Bool) := r11_Dropped.l0 k l0 a1 a2 0
theorem r11_Dropped.mono_l : ∀ k, (∀ y0 y1 y2 y3, LeC (r11_Dropped.l0 k y0 y1 y2 y3) (r11_Dropped.l0 (k + 1) y0 y1 y2 y3))
 | 0 => fun _ _ _ _ => ⟨fun r h => by simp [r11_Dropped.l0] at h⟩
 | k + 1 => by have ih0 := r11_Dropped.mono_l k; exact fun _ _ _ _ => by unfold r11_Dropped.l0; exact lm
theorem r11_Dropped.mono : ∀ a0 a1 a2 k, LeO (r11_Dropped.f k a0 a1 a2) (r11_Dropped.f (k + 1) a0 a1 a2) := by
 intro a0 a1 a2 k
 have ih0 := r11_Dropped.mono_l k
 unfold r11_Dropped.f
 exact lo
instance r11_Dropped.mI {a0 a1 a2 k} : LeC (r11_Dropped.f k a0 a1 a2) (r11_Dropped.f (k + 1) a0 a1 a2) := ⟨r11_Dropped.mono _ _ _ _⟩
theorem r11_Dropped.calls (k : Nat) (A0 : Option Addr) (c0 : Nat) (l0 : List (S46)) (a1 : Int) (a2 : Int) (r : Bool) (w : World) (hr0 : Kd.C k46 w A0 l0.length l0) (hc0 : l0.length ≤ c0) (h : r11_Dropped.f k l0 a1 a2 = some r) :
 Calls Try.prog 39 #[.slice A0 l0.length c0, .int .i64 a1, .int .i64 a2] w fun e w' => e = .returned (.bool r) ∧ Drawn0 w w' := by
 have HR0 := Aside0.mk hr0
 have HC0 := Aside0.mk hc0
 clear hr0 hc0
 have H : (r11_Dropped.l0 k l0 a1 a2 0) = some r := h
 clear h
 have H' := Aside0.mk H
 clear H
 go_enter Try.func39, Try.ntmps39
 go_wp2
 go_loopg [7] k (fun kq v7 w' => ∃ (x7_1 : Int), v7 = .int .i64 x7_1 ∧ Aside0 (r11_Dropped.l0 kq l0 a1 a2 x7_1 = some r) ∧ Aside0 (kq ≤ k) ∧ Drawn0 w w')
 case atStart => exact ⟨(0), rs_, H', ⟨Nat.le_refl _⟩, dr_⟩
 case round =>
  clear H'
  obtain ⟨x7_1, rfl, HA, HK1, ⟨m1, rfl⟩⟩ := hrel
  cases gk with
  | zero => exact absurd HA.out (by simp [r11_Dropped.l0])
  | succ k1 =>
   have H := HA.out
   clear HA
   simp only [r11_Dropped.l0] at H
   by_cases c4 : x7_1 < (l0.length : Int)
   ·
    rw [if_pos c4] at H
    have c4b0 : decide (x7_1 < (l0.length : Int)) = true := decide_eq_true c4
    clear c4
    obtain ⟨c5b0, H⟩ := gdd H
    by_cases c6 : ((rd_T46 l0 x7_1).f0) = a1
    ·
     rw [if_pos c6] at H
     have c6b0 : (((rd_T46 l0 x7_1).f0) == a1) = true := beq_iff_eq.mpr c6
     have c6b1 : (((rd_T46 l0 x7_1).f0) != a1) = false := bne_eq_false_iff_eq.mpr c6
     clear c6
     by_cases c7 : ((rd_T46 l0 x7_1).f1) ≤ a2
     ·
      rw [if_pos c7] at H
      have c7b0 : decide (((rd_T46 l0 x7_1).f1) ≤ a2) = true := decide_eq_true c7
      clear c7
      obtain rfl := Option.some.inj H
      have p352 : 0 ≤ (x7_1 : Int) := od
      have q352 : x7_1 < (l0.length : Int) := od
      obtain ⟨ad352, e352, hx352_0, hx352_1⟩ := at_T46 HR0.out x7_1 p352 q352
      cases e352
      replace p352 := eq_true p352
      replace q352 := eq_true q352
      have p353 : 0 ≤ (x7_1 : Int) := od
      have q353 : x7_1 < (l0.length : Int) := od
      obtain ⟨ad353, e353, hx353_0, hx353_1⟩ := at_T46 HR0.out x7_1 p353 q353
      obtain rfl : ad352 = ad353 := (by injection e353)
      replace p353 := eq_true p353
      replace q353 := eq_true q353
      go_wp2
      go_ret
      exact ⟨rs_, dr_⟩
     ·
      rw [if_neg c7] at H
      have c7b0 : decide (((rd_T46 l0 x7_1).f1) ≤ a2) = false := decide_eq_false c7
      clear c7
      have H' := Aside0.mk H
      clear H
      have p352 : 0 ≤ (x7_1 : Int) := od
      have q352 : x7_1 < (l0.length : Int) := od
      obtain ⟨ad352, e352, hx352_0, hx352_1⟩ := at_T46 HR0.out x7_1 p352 q352
      cases e352
      replace p352 := eq_true p352
      replace q352 := eq_true q352
      have p353 : 0 ≤ (x7_1 : Int) := od
      have q353 : x7_1 < (l0.length : Int) := od
      obtain ⟨ad353, e353, hx353_0, hx353_1⟩ := at_T46 HR0.out x7_1 p353 q353
      obtain rfl : ad352 = ad353 := (by injection e353)
      replace p353 := eq_true p353
      replace q353 := eq_true q353
      go_wp2
      go_roundg k1
      case measure => have := HK1.out; omega
      case rel => exact ⟨(wrap64 (x7_1 + 1)), rs_, H', ⟨by have := HK1.out; omega⟩, dr_⟩
    ·
     rw [if_neg c6] at H
     have c6b0 : (((rd_T46 l0 x7_1).f0) == a1) = false := beq_eq_false_iff_ne.mpr c6
     have c6b1 : (((rd_T46 l0 x7_1).f0) != a1) = true := bne_iff_ne.mpr c6
     have H' := Aside0.mk H
     clear H
     have p352 : 0 ≤ (x7_1 : Int) := od
     have q352 : x7_1 < (l0.length : Int) := od
     obtain ⟨ad352, e352, hx352_0, hx352_1⟩ := at_T46 HR0.out x7_1 p352 q352
     cases e352
     replace p352 := eq_true p352
     replace q352 := eq_true q352
     go_wp2
     go_roundg k1
     case measure => have := HK1.out; omega
     case rel => exact ⟨(wrap64 (x7_1 + 1)), rs_, H', ⟨by have := HK1.out; omega⟩, dr_⟩
   ·
    rw [if_neg c4] at H
    have c4b0 : decide (x7_1 < (l0.length : Int)) = false := decide_eq_false c4
    clear c4
    obtain rfl := Option.some.inj H
    go_wp2
    go_ret
    exact ⟨rs_, dr_⟩
def r11_Read.l0 : Nat → Int → List (S46) → List (S56) → Int → List (S70) → Option ((List (S56)))
 | 0, _, _, _, _, _ => none
 | k + 1, x1, x2, x7, x8, x355000 => if x8 < (x355000.length : Int) then (if 0 ≤ x8 then ((r10_At.f k ((rd_T70 x355000 x8).f2) x1).bind fun bt357 => (if bt357.1 ≥ 1 then ((r11_Dropped.f k x2 ((rd_T70 x355000 x8).f0) x1).bind fun t363 => (if t363 = true then (r11_Read.l0 k x1 x2 x7 (wrap64 (x8 + 1)) x355000) else (if x7.length < 2199023255552 then (r11_Read.l0 k x1 x2 (x7 ++ [(⟨(rd_T70 x355000 x8).f0, (rd_T70 x355000 x8).f1, (⟨bt357.1, (⟨bt357.2.1, bt357.2.2.1⟩ : S52), bt357.2.2.2.1, bt357.2.2.2.2⟩ : S54)⟩ : S56)]) (wrap64 (x8 + 1)) x355000) else (none)))) else (r11_Read.l0 k x1 x2 x7 (wrap64 (x8 + 1)) x355000))) else (none)) else (some x7)
def r11_Read.f (k : Nat) (l0_0 : List (S70)) (a1 : Int) (l2 : List (S46)) : Option ((List (S56))) := r11_Read.l0 k a1 l2 ([] : List (S56)) 0 l0_0
theorem r11_Read.mono_l : ∀ k, (∀ y0 y1 y2 y3 y4, LeC (r11_Read.l0 k y0 y1 y2 y3 y4) (r11_Read.l0 (k + 1) y0 y1 y2 y3 y4))
 | 0 => fun _ _ _ _ _ => ⟨fun r h => by simp [r11_Read.l0] at h⟩
 | k + 1 => by have ih0 := r11_Read.mono_l k; exact fun _ _ _ _ _ => by unfold r11_Read.l0; exact lm
theorem r11_Read.mono : ∀ a0 a1 a2 k, LeO (r11_Read.f k a0 a1 a2) (r11_Read.f (k + 1) a0 a1 a2) := by
 intro a0 a1 a2 k
 have ih0 := r11_Read.mono_l k
 unfold r11_Read.f
 exact lo
instance r11_Read.mI {a0 a1 a2 k} : LeC (r11_Read.f k a0 a1 a2) (r11_Read.f (k + 1) a0 a1 a2) := ⟨r11_Read.mono _ _ _ _⟩
theorem r11_Read.calls (k : Nat) (A0_0 : Option Addr) (c0_0 : Nat) (l0_0 : List (S70)) (a1 : Int) (A2 : Option Addr) (c2 : Nat) (l2 : List (S46)) (r : List (S56)) (w : World) (hr0_0 : Kd.C k70 w A0_0 l0_0.length l0_0) (hc0_0 : l0_0.length ≤ c0_0) (hr2 : Kd.C k46 w A2 l2.length l2) (hc2 : l2.length ≤ c2) (h : r11_Read.f k l0_0 a1 l2 = some r) :
 Calls Try.prog 18 #[.agg #[.slice A0_0 l0_0.length c0_0], .int .i64 a1, .slice A2 l2.length c2] w fun e w' => ∃ v0_ : Value, e = .returned (v0_) ∧ Kd.R k56 56 w' w.heap.size (fun _ => True) v0_ r ∧ Below w.heap.size w w' := by
 have hu50 := Try.underlying50
 have hu70 := Try.underlying70
 have hu54 := Try.underlying54
 have hu56 := Try.underlying56
 have HR0_0 := Aside0.mk hr0_0
 have HC0_0 := Aside0.mk hc0_0
 clear hr0_0 hc0_0
 have HR2 := Aside0.mk hr2
 have HC2 := Aside0.mk hc2
 clear hr2 hc2
 have HB := Aside0.mk (Below.refl w.heap.size w)
 have H : (r11_Read.l0 k a1 l2 ([] : List (S56)) 0 l0_0) = some r := h
 clear h
 have H' := Aside0.mk H
 clear H
 go_enter Try.func18, Try.ntmps18
 go_wp2_with (first | ((with_reducible refine gate_dst (N := 3) rfl ?_); refine bx (N := 3) #[.slice A0_0 l0_0.length c0_0] 50 ?_; intro gb354 hg w4 hbox hb; have BK354 := Aside0.mk (hbox); have GW354 := gw hg (uW HB.out); have GE354 := GW354; replace HB := cW HB hb; clear hb hbox hg))
 go_loopg [7, 8] k (fun kq v7 v8 w' => ∃ (x7_1 : List (S56)) (x8_1 : Int), v8 = .int .i64 x8_1 ∧ Aside0 (r11_Read.l0 kq a1 l2 x7_1 x8_1 l0_0 = some r) ∧ Aside0 (kq ≤ k) ∧ Aside0 (Kd.R k56 56 w' w.heap.size (fun _ => True) v7 x7_1) ∧ Aside0 (w'.heap[gb354]? = some (.cells #[(.slice A0_0 l0_0.length c0_0)] 50 (0, 0))) ∧ Aside0 (Below w.heap.size w w'))
 case atStart => exact ⟨(([] : List (S56))), (0), rs_, H', ⟨Nat.le_refl _⟩, ⟨nl_⟩, ⟨uB BK354.out⟩, ⟨bl⟩⟩
 case round =>
  clear H'
  try clear c2
  obtain ⟨x7_1, x8_1, rfl, HA, HK1, HO_7, BK354, HB⟩ := hrel
  cases gk with
  | zero => exact absurd HA.out (by simp [r11_Read.l0])
  | succ k1 =>
   have H := HA.out
   clear HA
   simp only [r11_Read.l0] at H
   by_cases c5 : x8_1 < (l0_0.length : Int)
   ·
    rw [if_pos c5] at H
    have c5b0 : decide (x8_1 < (l0_0.length : Int)) = true := decide_eq_true c5
    clear c5
    obtain ⟨c6b0, H⟩ := gdd H
    obtain ⟨⟨t357, t358, t359, t360, t361⟩, A7, H⟩ := bs H
    try dsimp only at H
    by_cases c8 : t357 ≥ 1
    ·
     rw [if_pos c8] at H
     have c8b0 : decide (1 ≤ t357) = true := decide_eq_true c8
     clear c8
     obtain ⟨t363, A9, H⟩ := bs H
     try dsimp only at H
     by_cases c10 : t363 = true
     ·
      subst c10
      rw [if_pos rfl] at H
      have H' := Aside0.mk H
      clear H
      obtain ⟨hcz11_0, hfz11_0⟩ := z1 BK354
      have p355 : 0 ≤ (x8_1 : Int) := od
      have q355 : x8_1 < (l0_0.length : Int) := od
      obtain ⟨ad355, A355_2, c355_2, e355, hx355_0, hx355_1, hx355_2, hl355_2, hi355_2⟩ := at_T70 HR0_0.out x8_1 p355 q355
      cases e355
      replace hx355_0 := kc HB hx355_0
      replace hx355_1 := kc HB hx355_1
      replace hx355_2 := kc HB hx355_2
      have HR355_2 := Aside0.mk hi355_2
      have HC355_2 := Aside0.mk hl355_2
      clear hi355_2 hl355_2
      replace p355 := eq_true p355
      replace q355 := eq_true q355
      go_wp2_with (first | ((with_reducible refine gate_dst (N := 9) rfl ?_); refine bx (N := 9) #[.int .i64 0, .string (⟨#[]⟩ : ByteArray), .slice none 0 0] 70 ?_; intro gb356 hg w12 hbox hb; replace HO_7 := cR HO_7 hb; have BK356 := Aside0.mk (hbox); have GW356 := gw hg bl; have GE356 := GW356; replace HB := Aside0.mk (below_step bl hb); have NB354_356 := nl BK354 hg; have NB356_354 := nr BK354 hg; replace BK354 := cB BK354 hb; clear hb hbox hg; have hnb13 := NB356_354.out; have hnc13 := NB354_356.out; obtain ⟨hcz14_0, hcz14_1, hcz14_2, hfz14_0, hfz14_1, hfz14_2⟩ := z3 BK356) | (refine gL (some 26) rfl Try.func36 #[.slice A355_2 ((rd_T70 l0_0 x8_1).f2).length c355_2, .int .i64 a1] ?_; (with_reducible refine (r10_At.calls k1 _ _ ((rd_T70 l0_0 x8_1).f2) a1 t357 t358 t359 t360 t361 _ ?side1 ?side2 A7.out).mono ?_); (case side1 => exact Kd.C_below HR355_2.out bl); (case side2 => exact HC355_2.out); rintro e w15 ⟨rfl, hb⟩; refine ⟨_, rfl, ?_⟩; replace HO_7 := fcR HO_7 BK356 hb; replace BK354 := Aside0.mk (blk_below (g := gb354) (o := .cells #[.slice (some ad355) l0_0.length c0_0] 50 (0, 0)) (fF BK354.out NB354_356) hb); replace BK356 := fcB BK356 hb; replace HB := Aside0.mk (below_step bl hb); (try clear hb)) | ((with_reducible refine gate_dst (N := 10) rfl ?_); refine bx (N := 10) #[.int .i64 0, .int .i64 0, .bool false, .int .i64 0, .int .i64 0] 54 ?_; intro gb362 hg w16 hbox hb; replace HO_7 := cR HO_7 hb; have BK362 := Aside0.mk (hbox); have GW362 := gw hg bl; have GE362 := GW362; replace HB := Aside0.mk (below_step bl hb); have NB354_362 := nl BK354 hg; have NB362_354 := nr BK354 hg; replace BK354 := cB BK354 hb; have NB356_362 := nl BK356 hg; have NB362_356 := nr BK356 hg; replace BK356 := cB BK356 hb; clear hb hbox hg; have hnb17 := NB362_354.out; have hnc17 := NB354_362.out; have hnb18 := NB362_356.out; have hnc18 := NB356_362.out; obtain ⟨hcz19_0, hcz19_1, hcz19_2, hcz19_3, hcz19_4, hfz19_0, hfz19_1, hfz19_2, hfz19_3, hfz19_4⟩ := z5 BK362) | ((with_reducible refine gate_store (t := 54) (p := 10) rfl ?_); refine store_event (t := 54) (p := 10) (v := ?vo_w20) (w1 := (((((w16.setCell ⟨gb362, 0, none⟩ (.int .i64 t357)).setCell ⟨gb362, 1, none⟩ (.int .i64 t358)).setCell ⟨gb362, 2, none⟩ (.bool t359)).setCell ⟨gb362, 3, none⟩ (.int .i64 t360)).setCell ⟨gb362, 4, none⟩ (.int .i64 t361))) ?hg ?ho ?hn ?hr ?_; (case ho => rfl); (case hg => rfl); (case hn => rfl); (case hr => first | (go_simp; done) | (go_simp; rfl)); intro w20 hw; replace HO_7 := fgR (ok' := fun _ => True) hw HO_7 BK362 fun _ _ => trivial; replace BK354 := fgF hw BK354 NB354_362; replace BK356 := fgF hw BK356 NB356_362; replace HB : Aside0 (Below w.heap.size w w20) := fgW hw bl; replace BK362 := fgB hw BK362; clear hw; obtain ⟨hcz21_0, hcz21_1, hcz21_2, hcz21_3, hcz21_4, hfz21_0, hfz21_1, hfz21_2, hfz21_3, hfz21_4⟩ := z5 BK362; obtain ⟨hcz22_0, hcz22_1, hcz22_2, hfz22_0, hfz22_1, hfz22_2⟩ := z3 BK356) | (go_at_call 39; (with_reducible refine (r11_Dropped.calls k1 _ _ l2 ((rd_T70 l0_0 x8_1).f0) a1 true _ ?side1 ?side2 A9.out).mono ?_); (case side1 => exact uC <| (Kd.C_below HR2.out HB.out)); (case side2 => exact HC2.out); rintro e w' ⟨rfl, ⟨nd, rfl⟩⟩))
      go_roundg k1
      case measure => have := HK1.out; omega
      case rel => exact ⟨(x7_1), (wrap64 (x8_1 + 1)), rs_, H', ⟨by have := HK1.out; omega⟩, ⟨uR HO_7.out⟩, ⟨uB BK354.out⟩, ⟨bl⟩⟩
     ·
      replace c10 := Bool.eq_false_iff.mpr c10
      subst c10
      rw [if_neg (show ¬ (false = true) by decide)] at H
      obtain ⟨c23, H⟩ := gd H
      have LMc23 := Aside0.mk c23
      clear c23
      obtain ⟨y364, hy364⟩ : ∃ y_ : List (S56), y_ = (x7_1 ++ [(⟨(rd_T70 l0_0 x8_1).f0, (rd_T70 l0_0 x8_1).f1, (⟨t357, (⟨t358, t359⟩ : S52), t360, t361⟩ : S54)⟩ : S56)]) := ⟨_, rfl⟩
      replace H : (r11_Read.l0 k1 a1 l2 y364 (wrap64 (x8_1 + 1)) l0_0) = some r := by first | (rw [hy364]; with_reducible exact H) | (have H2_ := (Option.bind_some _ _).symm.trans H; rw [hy364]; with_reducible exact H2_) | (have H2_ := (Option.bind_some _ _).symm.trans H; with_reducible exact H2_) | with_reducible exact H | (rw [hy364]; exact H) | exact H
      have Ny364 := Aside0.mk hy364
      clear hy364
      have H' := Aside0.mk H
      clear H
      obtain ⟨hcz24_0, hfz24_0⟩ := z1 BK354
      have p355 : 0 ≤ (x8_1 : Int) := od
      have q355 : x8_1 < (l0_0.length : Int) := od
      obtain ⟨ad355, A355_2, c355_2, e355, hx355_0, hx355_1, hx355_2, hl355_2, hi355_2⟩ := at_T70 HR0_0.out x8_1 p355 q355
      cases e355
      replace hx355_0 := kc HB hx355_0
      replace hx355_1 := kc HB hx355_1
      replace hx355_2 := kc HB hx355_2
      have HR355_2 := Aside0.mk hi355_2
      have HC355_2 := Aside0.mk hl355_2
      clear hi355_2 hl355_2
      replace p355 := eq_true p355
      replace q355 := eq_true q355
      go_wp2_with (first | ((with_reducible refine gate_dst (N := 9) rfl ?_); refine bx (N := 9) #[.int .i64 0, .string (⟨#[]⟩ : ByteArray), .slice none 0 0] 70 ?_; intro gb356 hg w25 hbox hb; replace HO_7 := cR HO_7 hb; have BK356 := Aside0.mk (hbox); have GW356 := gw hg bl; have GE356 := GW356; replace HB := Aside0.mk (below_step bl hb); have NB354_356 := nl BK354 hg; have NB356_354 := nr BK354 hg; replace BK354 := cB BK354 hb; clear hb hbox hg; have hnb26 := NB356_354.out; have hnc26 := NB354_356.out; obtain ⟨hcz27_0, hcz27_1, hcz27_2, hfz27_0, hfz27_1, hfz27_2⟩ := z3 BK356) | (refine gL (some 26) rfl Try.func36 #[.slice A355_2 ((rd_T70 l0_0 x8_1).f2).length c355_2, .int .i64 a1] ?_; (with_reducible refine (r10_At.calls k1 _ _ ((rd_T70 l0_0 x8_1).f2) a1 t357 t358 t359 t360 t361 _ ?side1 ?side2 A7.out).mono ?_); (case side1 => exact Kd.C_below HR355_2.out bl); (case side2 => exact HC355_2.out); rintro e w28 ⟨rfl, hb⟩; refine ⟨_, rfl, ?_⟩; replace HO_7 := fcR HO_7 BK356 hb; replace BK354 := Aside0.mk (blk_below (g := gb354) (o := .cells #[.slice (some ad355) l0_0.length c0_0] 50 (0, 0)) (fF BK354.out NB354_356) hb); replace BK356 := fcB BK356 hb; replace HB := Aside0.mk (below_step bl hb); (try clear hb)) | ((with_reducible refine gate_dst (N := 10) rfl ?_); refine bx (N := 10) #[.int .i64 0, .int .i64 0, .bool false, .int .i64 0, .int .i64 0] 54 ?_; intro gb362 hg w29 hbox hb; replace HO_7 := cR HO_7 hb; have BK362 := Aside0.mk (hbox); have GW362 := gw hg bl; have GE362 := GW362; replace HB := Aside0.mk (below_step bl hb); have NB354_362 := nl BK354 hg; have NB362_354 := nr BK354 hg; replace BK354 := cB BK354 hb; have NB356_362 := nl BK356 hg; have NB362_356 := nr BK356 hg; replace BK356 := cB BK356 hb; clear hb hbox hg; have hnb30 := NB362_354.out; have hnc30 := NB354_362.out; have hnb31 := NB362_356.out; have hnc31 := NB356_362.out; obtain ⟨hcz32_0, hcz32_1, hcz32_2, hcz32_3, hcz32_4, hfz32_0, hfz32_1, hfz32_2, hfz32_3, hfz32_4⟩ := z5 BK362) | ((with_reducible refine gate_store (t := 54) (p := 10) rfl ?_); refine store_event (t := 54) (p := 10) (v := ?vo_w33) (w1 := (((((w29.setCell ⟨gb362, 0, none⟩ (.int .i64 t357)).setCell ⟨gb362, 1, none⟩ (.int .i64 t358)).setCell ⟨gb362, 2, none⟩ (.bool t359)).setCell ⟨gb362, 3, none⟩ (.int .i64 t360)).setCell ⟨gb362, 4, none⟩ (.int .i64 t361))) ?hg ?ho ?hn ?hr ?_; (case ho => rfl); (case hg => rfl); (case hn => rfl); (case hr => first | (go_simp; done) | (go_simp; rfl)); intro w33 hw; replace HO_7 := fgR (ok' := fun _ => True) hw HO_7 BK362 fun _ _ => trivial; replace BK354 := fgF hw BK354 NB354_362; replace BK356 := fgF hw BK356 NB356_362; replace HB : Aside0 (Below w.heap.size w w33) := fgW hw bl; replace BK362 := fgB hw BK362; clear hw; obtain ⟨hcz34_0, hcz34_1, hcz34_2, hcz34_3, hcz34_4, hfz34_0, hfz34_1, hfz34_2, hfz34_3, hfz34_4⟩ := z5 BK362; obtain ⟨hcz35_0, hcz35_1, hcz35_2, hfz35_0, hfz35_1, hfz35_2⟩ := z3 BK356) | (go_at_call 39; (with_reducible refine (r11_Dropped.calls k1 _ _ l2 ((rd_T70 l0_0 x8_1).f0) a1 false _ ?side1 ?side2 A9.out).mono ?_); (case side1 => exact uC <| (Kd.C_below HR2.out HB.out)); (case side2 => exact HC2.out); rintro e w' ⟨rfl, ⟨nd, rfl⟩⟩) | ((with_reducible refine gate_builtin (b := .append) (xs := #[.tmp 38, .tmp 45]) rfl ?_); at_builtin; refine Kd.R_append k56 (w0 := w) w.heap.size rfl (.tmp 38) (.tmp 45) 36 56 (.agg #[(.int .i64 0), (.string ⟨#[]⟩), (.int .i64 0), (.int .i64 0), (.bool false), (.int .i64 0), (.int .i64 0)]) 64 rfl Try.underlying36 info56 rfl (by decide) (by omega) u7 x7_1 (⟨(rd_T70 l0_0 x8_1).f0, (rd_T70 l0_0 x8_1).f1, (⟨t357, (⟨t358, t359⟩ : S52), t360, t361⟩ : S54)⟩ : S56) [.int .i64 ((rd_T70 l0_0 x8_1).f0), .string ((rd_T70 l0_0 x8_1).f1), .int .i64 t357, .int .i64 t358, .bool t359, .int .i64 t360, .int .i64 t361] (fun _ => True) (fun _ => False) rfl rfl ?aP (fun _ hk => hk.elim) ?aF ?aO ?aB ?aS ?aL ?_; (case aP => exact k56_mkM _ _ _ (⟨(rd_T70 l0_0 x8_1).f0, (rd_T70 l0_0 x8_1).f1, (⟨t357, (⟨t358, t359⟩ : S52), t360, t361⟩ : S54)⟩ : S56)); (case aB => exact bl); (case aF => exact (fun _ _ => trivial)); (case aO => exact (uR HO_7.out)); (case aS => exact (below_size bl)); (case aL => have := LMc23.out; omega); intro v365 w36 ho hb hg hat; rw [← Ny364.out] at ho; replace BK354 := Aside0.mk (blk_grown (g := gb354) (o := .cells #[.slice (some ad355) l0_0.length c0_0] 50 (0, 0)) (uB BK354.out) hg (Kd.R_ne HO_7.out BK354.out (by decide))); replace BK356 := Aside0.mk (blk_grown (g := gb356) (o := .cells #[.int .i64 ((rd_T70 l0_0 x8_1).f0), .string ((rd_T70 l0_0 x8_1).f1), .slice A355_2 ((rd_T70 l0_0 x8_1).f2).length c355_2] 70 (0, 0)) (uB BK356.out) hg (Kd.R_ne HO_7.out BK356.out (by decide))); replace BK362 := Aside0.mk (blk_grown (g := gb362) (o := .cells #[.int .i64 t357, .int .i64 t358, .bool t359, .int .i64 t360, .int .i64 t361] 54 (0, 0)) (uB BK362.out) hg (Kd.R_ne HO_7.out BK362.out (by decide))); replace HB := Aside0.mk (hb); have HO366 := Aside0.mk (ho); clear HO_7; clear ho hb hg hat))
      go_roundg k1
      case measure => have := HK1.out; omega
      case rel => exact ⟨(y364), (wrap64 (x8_1 + 1)), rs_, H', ⟨by have := HK1.out; omega⟩, ⟨uR HO366.out⟩, ⟨uB BK354.out⟩, ⟨bl⟩⟩
    ·
     rw [if_neg c8] at H
     have c8b0 : decide (1 ≤ t357) = false := decide_eq_false c8
     clear c8
     have H' := Aside0.mk H
     clear H
     obtain ⟨hcz37_0, hfz37_0⟩ := z1 BK354
     have p355 : 0 ≤ (x8_1 : Int) := od
     have q355 : x8_1 < (l0_0.length : Int) := od
     obtain ⟨ad355, A355_2, c355_2, e355, hx355_0, hx355_1, hx355_2, hl355_2, hi355_2⟩ := at_T70 HR0_0.out x8_1 p355 q355
     cases e355
     replace hx355_0 := kc HB hx355_0
     replace hx355_1 := kc HB hx355_1
     replace hx355_2 := kc HB hx355_2
     have HR355_2 := Aside0.mk hi355_2
     have HC355_2 := Aside0.mk hl355_2
     clear hi355_2 hl355_2
     replace p355 := eq_true p355
     replace q355 := eq_true q355
     go_wp2_with (first | ((with_reducible refine gate_dst (N := 9) rfl ?_); refine bx (N := 9) #[.int .i64 0, .string (⟨#[]⟩ : ByteArray), .slice none 0 0] 70 ?_; intro gb356 hg w38 hbox hb; replace HO_7 := cR HO_7 hb; have BK356 := Aside0.mk (hbox); have GW356 := gw hg bl; have GE356 := GW356; replace HB := Aside0.mk (below_step bl hb); have NB354_356 := nl BK354 hg; have NB356_354 := nr BK354 hg; replace BK354 := cB BK354 hb; clear hb hbox hg; have hnb39 := NB356_354.out; have hnc39 := NB354_356.out; obtain ⟨hcz40_0, hcz40_1, hcz40_2, hfz40_0, hfz40_1, hfz40_2⟩ := z3 BK356) | (refine gL (some 26) rfl Try.func36 #[.slice A355_2 ((rd_T70 l0_0 x8_1).f2).length c355_2, .int .i64 a1] ?_; (with_reducible refine (r10_At.calls k1 _ _ ((rd_T70 l0_0 x8_1).f2) a1 t357 t358 t359 t360 t361 _ ?side1 ?side2 A7.out).mono ?_); (case side1 => exact Kd.C_below HR355_2.out bl); (case side2 => exact HC355_2.out); rintro e w41 ⟨rfl, hb⟩; refine ⟨_, rfl, ?_⟩; replace HO_7 := fcR HO_7 BK356 hb; replace BK354 := Aside0.mk (blk_below (g := gb354) (o := .cells #[.slice (some ad355) l0_0.length c0_0] 50 (0, 0)) (fF BK354.out NB354_356) hb); replace BK356 := fcB BK356 hb; replace HB := Aside0.mk (below_step bl hb); (try clear hb)) | ((with_reducible refine gate_dst (N := 10) rfl ?_); refine bx (N := 10) #[.int .i64 0, .int .i64 0, .bool false, .int .i64 0, .int .i64 0] 54 ?_; intro gb362 hg w42 hbox hb; replace HO_7 := cR HO_7 hb; have BK362 := Aside0.mk (hbox); have GW362 := gw hg bl; have GE362 := GW362; replace HB := Aside0.mk (below_step bl hb); have NB354_362 := nl BK354 hg; have NB362_354 := nr BK354 hg; replace BK354 := cB BK354 hb; have NB356_362 := nl BK356 hg; have NB362_356 := nr BK356 hg; replace BK356 := cB BK356 hb; clear hb hbox hg; have hnb43 := NB362_354.out; have hnc43 := NB354_362.out; have hnb44 := NB362_356.out; have hnc44 := NB356_362.out; obtain ⟨hcz45_0, hcz45_1, hcz45_2, hcz45_3, hcz45_4, hfz45_0, hfz45_1, hfz45_2, hfz45_3, hfz45_4⟩ := z5 BK362) | ((with_reducible refine gate_store (t := 54) (p := 10) rfl ?_); refine store_event (t := 54) (p := 10) (v := ?vo_w46) (w1 := (((((w42.setCell ⟨gb362, 0, none⟩ (.int .i64 t357)).setCell ⟨gb362, 1, none⟩ (.int .i64 t358)).setCell ⟨gb362, 2, none⟩ (.bool t359)).setCell ⟨gb362, 3, none⟩ (.int .i64 t360)).setCell ⟨gb362, 4, none⟩ (.int .i64 t361))) ?hg ?ho ?hn ?hr ?_; (case ho => rfl); (case hg => rfl); (case hn => rfl); (case hr => first | (go_simp; done) | (go_simp; rfl)); intro w46 hw; replace HO_7 := fgR (ok' := fun _ => True) hw HO_7 BK362 fun _ _ => trivial; replace BK354 := fgF hw BK354 NB354_362; replace BK356 := fgF hw BK356 NB356_362; replace HB : Aside0 (Below w.heap.size w w46) := fgW hw bl; replace BK362 := fgB hw BK362; clear hw; obtain ⟨hcz47_0, hcz47_1, hcz47_2, hcz47_3, hcz47_4, hfz47_0, hfz47_1, hfz47_2, hfz47_3, hfz47_4⟩ := z5 BK362))
     go_roundg k1
     case measure => have := HK1.out; omega
     case rel => exact ⟨(x7_1), (wrap64 (x8_1 + 1)), rs_, H', ⟨by have := HK1.out; omega⟩, ⟨uR HO_7.out⟩, ⟨uB BK354.out⟩, ⟨bl⟩⟩
   ·
    rw [if_neg c5] at H
    have c5b0 : decide (x8_1 < (l0_0.length : Int)) = false := decide_eq_false c5
    clear c5
    obtain rfl := Option.some.inj H
    obtain ⟨hcz48_0, hfz48_0⟩ := z1 BK354
    go_wp2
    go_ret
    exact ⟨_, re_, uR HO_7.out, bl⟩
end Go.Proofs.Ytklhjponikgkkaa.X
