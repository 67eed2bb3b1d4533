/- Printed by a program of this session's own: what functions of the program compute, and that the machine computes it. No condition of its own. -/
import Derived.Test.YtofaindjbhmopaaM3
import Derived.Test.YtofaindjbhmopaaM5
namespace Go.Proofs.Ytofaindjbhmopaa.X
open Go.RowKit Go.Proofs.YtofaindjbhmopaaW.PrintWords Go.Proofs.YtofaindjbhmopaaW.PrintLast Go.Proofs.YtofaindjbhmopaaW.PrintMore
attribute [local go_sem] max2_int min2_int max_two min_two max_three min_three max_four min_four
set_option linter.unusedVariables false
set_option linter.unusedSimpArgs false
set_option maxHeartbeats 8000000
set_option maxRecDepth 100000
attribute [local go_sem high] eqA54
def r11_Great.l0 : Nat → Int → List (S59) → Option (Bool)
 | 0, _, _ => none
 | k + 1, x3, x334000 => if x3 < (x334000.length : Int) then (if 0 ≤ x3 then (if (((rd_T59 x334000 x3).f2).length : Int) > 100 then (some true) else (if (((rd_T59 x334000 x3).f1).size : Int) > 300 then (some true) else (r11_Great.l0 k (wrap64 (x3 + 1)) x334000))) else (none)) else (some false)
def r11_Great.f (k : Nat) (l0_0 : List (S59)) : Option (Bool) := if (l0_0.length : Int) > 100 then (some true) else (r11_Great.l0 k 0 l0_0)
theorem r11_Great.mono_l : ∀ k, (∀ y0 y1, LeC (r11_Great.l0 k y0 y1) (r11_Great.l0 (k + 1) y0 y1))
 | 0 => fun _ _ => ⟨fun r h => by simp [r11_Great.l0] at h⟩
 | k + 1 => by have ih0 := r11_Great.mono_l k; exact fun _ _ => by unfold r11_Great.l0; exact lm
theorem r11_Great.mono : ∀ a0 k, LeO (r11_Great.f k a0) (r11_Great.f (k + 1) a0) := by
 intro a0 k
 have ih0 := r11_Great.mono_l k
 unfold r11_Great.f
 exact lo
instance r11_Great.mI {a0 k} : LeC (r11_Great.f k a0) (r11_Great.f (k + 1) a0) := ⟨r11_Great.mono _ _⟩
theorem r11_Great.calls (k : Nat) (A0_0 : Option Addr) (c0_0 : Nat) (l0_0 : List (S59)) (r : Bool) (w : World) (hr0_0 : Kd.C k59 w A0_0 l0_0.length l0_0) (hc0_0 : l0_0.length ≤ c0_0) (h : r11_Great.f k l0_0 = some r) :
 Calls Try.prog 9 #[.agg #[.slice A0_0 l0_0.length c0_0]] w fun e w' => e = .returned (.bool r) ∧ Below w.heap.size w w' := by
 have hu24 := Try.underlying24
 have HR0_0 := Aside0.mk hr0_0
 have HC0_0 := Aside0.mk hc0_0
 clear hr0_0 hc0_0
 have HB := Aside0.mk (Below.refl w.heap.size w)
 have H : (if (l0_0.length : Int) > 100 then (some true) else (r11_Great.l0 k 0 l0_0)) = some r := h
 clear h
 by_cases c2 : (l0_0.length : Int) > 100
 ·
  rw [if_pos c2] at H
  have c2b0 : decide (100 < (l0_0.length : Int)) = true := decide_eq_true c2
  have c2b1 : decide (100 < l0_0.length) = true := decide_eq_true (by omega)
  clear c2
  obtain rfl := Option.some.inj H
  go_enter Try.func9, Try.ntmps9
  go_wp2_with (first | ((with_reducible refine gate_dst (N := 1) rfl ?_); (try (refine gate_guard (by rfl) ?_; dsimp only)); refine bx (N := 1) #[.slice A0_0 l0_0.length c0_0] 24 ?_; intro gb333 hg w3 hbox hb; have BK333 := Aside0.mk (hbox); have GW333 := gw hg (uW HB.out); have GE333 := GW333; replace HB := cW HB hb; clear hb hbox hg; obtain ⟨hcz4_0, hfz4_0⟩ := z1 BK333))
  go_ret
  exact ⟨re_, bl⟩
 ·
  rw [if_neg c2] at H
  have c2b0 : decide (100 < (l0_0.length : Int)) = false := decide_eq_false c2
  have c2b1 : decide (100 < l0_0.length) = false := decide_eq_false (by omega)
  clear c2
  have H' := Aside0.mk H
  clear H
  go_enter Try.func9, Try.ntmps9
  go_wp2_with (first | ((with_reducible refine gate_dst (N := 1) rfl ?_); (try (refine gate_guard (by rfl) ?_; dsimp only)); refine bx (N := 1) #[.slice A0_0 l0_0.length c0_0] 24 ?_; intro gb333 hg w5 hbox hb; have BK333 := Aside0.mk (hbox); have GW333 := gw hg (uW HB.out); have GE333 := GW333; replace HB := cW HB hb; clear hb hbox hg; obtain ⟨hcz6_0, hfz6_0⟩ := z1 BK333))
  go_loopg [3] k (fun kq v3 w' => ∃ (x3_1 : Int), v3 = .int .i64 x3_1 ∧ Aside0 (r11_Great.l0 kq x3_1 l0_0 = some r) ∧ Aside0 (kq ≤ k) ∧ Aside0 (w'.heap[gb333]? = some (.cells #[(.slice A0_0 l0_0.length c0_0)] 24 (0, 0))) ∧ Aside0 (Below w.heap.size w w'))
  case atStart => exact ⟨(0), rs_, H', ⟨Nat.le_refl _⟩, ⟨uB BK333.out⟩, ⟨bl⟩⟩
  case round =>
   clear H'
   try clear c2
   try clear c2b0
   try clear c2b1
   try clear p2
   try clear hcz4_0
   try clear hcz6_0
   try clear hfz4_0
   try clear hfz6_0
   obtain ⟨x3_1, rfl, HA, HK1, BK333, HB⟩ := hrel
   cases gk with
   | zero => exact absurd HA.out (by simp [r11_Great.l0])
   | succ k1 =>
    have H := HA.out
    clear HA
    simp only [r11_Great.l0] at H
    by_cases c7 : x3_1 < (l0_0.length : Int)
    ·
     rw [if_pos c7] at H
     have c7b0 : decide (x3_1 < (l0_0.length : Int)) = true := decide_eq_true c7
     clear c7
     obtain ⟨c8b0, H⟩ := gdd H
     by_cases c9 : (((rd_T59 l0_0 x3_1).f2).length : Int) > 100
     ·
      rw [if_pos c9] at H
      have c9b0 : decide (100 < (((rd_T59 l0_0 x3_1).f2).length : Int)) = true := decide_eq_true c9
      have c9b1 : decide (100 < ((rd_T59 l0_0 x3_1).f2).length) = true := decide_eq_true (by omega)
      clear c9
      obtain rfl := Option.some.inj H
      obtain ⟨hcz10_0, hfz10_0⟩ := z1 BK333
      have p334 : 0 ≤ (x3_1 : Int) := od
      have q334 : x3_1 < (l0_0.length : Int) := od
      obtain ⟨ad334, A334_2, c334_2, e334, hx334_0, hx334_1, hx334_2, hl334_2, hi334_2⟩ := at_T59 HR0_0.out x3_1 p334 q334
      cases e334
      replace hx334_0 := kc HB hx334_0
      replace hx334_1 := kc HB hx334_1
      replace hx334_2 := kc HB hx334_2
      have HR334_2 := Aside0.mk hi334_2
      have HC334_2 := Aside0.mk hl334_2
      clear hi334_2 hl334_2
      replace p334 := eq_true p334
      replace q334 := eq_true q334
      go_wp2
      go_ret
      exact ⟨re_, bl⟩
     ·
      rw [if_neg c9] at H
      have c9b0 : decide (100 < (((rd_T59 l0_0 x3_1).f2).length : Int)) = false := decide_eq_false c9
      have c9b1 : decide (100 < ((rd_T59 l0_0 x3_1).f2).length) = false := decide_eq_false (by omega)
      clear c9
      by_cases c11 : (((rd_T59 l0_0 x3_1).f1).size : Int) > 300
      ·
       rw [if_pos c11] at H
       have c11b0 : decide (300 < (((rd_T59 l0_0 x3_1).f1).size : Int)) = true := decide_eq_true c11
       have c11b1 : decide (300 < ((rd_T59 l0_0 x3_1).f1).size) = true := decide_eq_true (by omega)
       clear c11
       obtain rfl := Option.some.inj H
       obtain ⟨hcz12_0, hfz12_0⟩ := z1 BK333
       have p334 : 0 ≤ (x3_1 : Int) := od
       have q334 : x3_1 < (l0_0.length : Int) := od
       obtain ⟨ad334, A334_2, c334_2, e334, hx334_0, hx334_1, hx334_2, hl334_2, hi334_2⟩ := at_T59 HR0_0.out x3_1 p334 q334
       cases e334
       replace hx334_0 := kc HB hx334_0
       replace hx334_1 := kc HB hx334_1
       replace hx334_2 := kc HB hx334_2
       have HR334_2 := Aside0.mk hi334_2
       have HC334_2 := Aside0.mk hl334_2
       clear hi334_2 hl334_2
       replace p334 := eq_true p334
       replace q334 := eq_true q334
       have p335 : 0 ≤ (x3_1 : Int) := od
       have q335 : x3_1 < (l0_0.length : Int) := od
       obtain ⟨ad335, A335_2, c335_2, e335, hx335_0, hx335_1, hx335_2, hl335_2, hi335_2⟩ := at_T59 HR0_0.out x3_1 p335 q335
       obtain rfl : ad334 = ad335 := (by injection e335)
       replace hx335_0 := kc HB hx335_0
       replace hx335_1 := kc HB hx335_1
       replace hx335_2 := kc HB hx335_2
       have HR335_2 := Aside0.mk hi335_2
       have HC335_2 := Aside0.mk hl335_2
       clear hi335_2 hl335_2
       replace p335 := eq_true p335
       replace q335 := eq_true q335
       have ea_ := Option.some.inj (hx334_2.symm.trans hx335_2)
       injection ea_ with ea_ en_ ec_
       subst ea_
       subst ec_
       clear en_
       go_wp2
       go_ret
       exact ⟨re_, bl⟩
      ·
       rw [if_neg c11] at H
       have c11b0 : decide (300 < (((rd_T59 l0_0 x3_1).f1).size : Int)) = false := decide_eq_false c11
       have c11b1 : decide (300 < ((rd_T59 l0_0 x3_1).f1).size) = false := decide_eq_false (by omega)
       clear c11
       have H' := Aside0.mk H
       clear H
       obtain ⟨hcz13_0, hfz13_0⟩ := z1 BK333
       have p334 : 0 ≤ (x3_1 : Int) := od
       have q334 : x3_1 < (l0_0.length : Int) := od
       obtain ⟨ad334, A334_2, c334_2, e334, hx334_0, hx334_1, hx334_2, hl334_2, hi334_2⟩ := at_T59 HR0_0.out x3_1 p334 q334
       cases e334
       replace hx334_0 := kc HB hx334_0
       replace hx334_1 := kc HB hx334_1
       replace hx334_2 := kc HB hx334_2
       have HR334_2 := Aside0.mk hi334_2
       have HC334_2 := Aside0.mk hl334_2
       clear hi334_2 hl334_2
       replace p334 := eq_true p334
       replace q334 := eq_true q334
       have p335 : 0 ≤ (x3_1 : Int) := od
       have q335 : x3_1 < (l0_0.length : Int) := od
       obtain ⟨ad335, A335_2, c335_2, e335, hx335_0, hx335_1, hx335_2, hl335_2, hi335_2⟩ := at_T59 HR0_0.out x3_1 p335 q335
       obtain rfl : ad334 = ad335 := (by injection e335)
       replace hx335_0 := kc HB hx335_0
       replace hx335_1 := kc HB hx335_1
       replace hx335_2 := kc HB hx335_2
       have HR335_2 := Aside0.mk hi335_2
       have HC335_2 := Aside0.mk hl335_2
       clear hi335_2 hl335_2
       replace p335 := eq_true p335
       replace q335 := eq_true q335
       have ea_ := Option.some.inj (hx334_2.symm.trans hx335_2)
       injection ea_ with ea_ en_ ec_
       subst ea_
       subst ec_
       clear en_
       go_wp2
       go_roundg k1
       case measure => have := HK1.out; omega
       case rel => exact ⟨(wrap64 (x3_1 + 1)), rs_, H', ⟨by have := HK1.out; omega⟩, ⟨uB BK333.out⟩, ⟨bl⟩⟩
    ·
     rw [if_neg c7] at H
     have c7b0 : decide (x3_1 < (l0_0.length : Int)) = false := decide_eq_false c7
     clear c7
     obtain rfl := Option.some.inj H
     obtain ⟨hcz14_0, hfz14_0⟩ := z1 BK333
     go_wp2
     go_ret
     exact ⟨re_, bl⟩
def r08_Items.l0 : Nat → List (S54) → List (S54) → Int → Option (Bool)
 | 0, _, _, _ => none
 | k + 1, x0, x1, x5 => if x5 < (x0.length : Int) then (if 0 ≤ x5 then (if x5 < (x1.length : Int) then (if (!(((rd_T54 x0 x5).f0) == ((rd_T54 x1 x5).f0)) || (!((((rd_T54 x0 x5).f1).toList) == (((rd_T54 x1 x5).f1).toList)) || ((!(((rd_T54 x0 x5).f2.f0) == ((rd_T54 x1 x5).f2.f0)) || ((!(((rd_T54 x0 x5).f2.f1.f0) == ((rd_T54 x1 x5).f2.f1.f0)) || (!(((rd_T54 x0 x5).f2.f1.f1) == ((rd_T54 x1 x5).f2.f1.f1)))) || (!(((rd_T54 x0 x5).f2.f2) == ((rd_T54 x1 x5).f2.f2)) || (!(((rd_T54 x0 x5).f2.f3) == ((rd_T54 x1 x5).f2.f3))))))))) = true then (some false) else (r08_Items.l0 k x0 x1 (wrap64 (x5 + 1)))) else (none)) else (none)) else (some true)
def r08_Items.f (k : Nat) (l0 : List (S54)) (l1 : List (S54)) : Option (Bool) := if (l0.length : Int) = (l1.length : Int) then (r08_Items.l0 k l0 l1 0) else (some false)
theorem r08_Items.mono_l : ∀ k, (∀ y0 y1 y2, LeC (r08_Items.l0 k y0 y1 y2) (r08_Items.l0 (k + 1) y0 y1 y2))
 | 0 => fun _ _ _ => ⟨fun r h => by simp [r08_Items.l0] at h⟩
 | k + 1 => by have ih0 := r08_Items.mono_l k; exact fun _ _ _ => by unfold r08_Items.l0; exact lm
theorem r08_Items.mono : ∀ a0 a1 k, LeO (r08_Items.f k a0 a1) (r08_Items.f (k + 1) a0 a1) := by
 intro a0 a1 k
 have ih0 := r08_Items.mono_l k
 unfold r08_Items.f
 exact lo
instance r08_Items.mI {a0 a1 k} : LeC (r08_Items.f k a0 a1) (r08_Items.f (k + 1) a0 a1) := ⟨r08_Items.mono _ _ _⟩
theorem r08_Items.calls (k : Nat) (A0 : Option Addr) (c0 : Nat) (l0 : List (S54)) (A1 : Option Addr) (c1 : Nat) (l1 : List (S54)) (r : Bool) (w : World) (hr0 : Kd.C k54 w A0 l0.length l0) (hc0 : l0.length ≤ c0) (hr1 : Kd.C k54 w A1 l1.length l1) (hc1 : l1.length ≤ c1) (h : r08_Items.f k l0 l1 = some r) :
 Calls Try.prog 17 #[.slice A0 l0.length c0, .slice A1 l1.length c1] w fun e w' => e = .returned (.bool r) ∧ Drawn0 w w' := by
 have hu54 := Try.underlying54
 have HR0 := Aside0.mk hr0
 have HC0 := Aside0.mk hc0
 clear hr0 hc0
 have HR1 := Aside0.mk hr1
 have HC1 := Aside0.mk hc1
 clear hr1 hc1
 have H : (if (l0.length : Int) = (l1.length : Int) then (r08_Items.l0 k l0 l1 0) else (some false)) = some r := h
 clear h
 by_cases c3 : (l0.length : Int) = (l1.length : Int)
 ·
  rw [if_pos c3] at H
  have c3b0 : ((l0.length : Int) == (l1.length : Int)) = true := beq_iff_eq.mpr c3
  have c3b1 : ((l0.length : Int) != (l1.length : Int)) = false := bne_eq_false_iff_eq.mpr c3
  have c3b2 : (l0.length == l1.length) = true := by first | simpa using c3 | (simp at c3 ⊢; omega)
  clear c3
  have H' := Aside0.mk H
  clear H
  go_enter Try.func17, Try.ntmps17
  go_wp2
  repeat (go_quiet (fail); try go_wp2)
  go_loopg [5] k (fun kq v5 w' => ∃ (x5_1 : Int), v5 = .int .i64 x5_1 ∧ Aside0 (r08_Items.l0 kq l0 l1 x5_1 = some r) ∧ Aside0 (kq ≤ k) ∧ Drawn0 w w')
  case atStart => exact ⟨(0), rs_, H', ⟨Nat.le_refl _⟩, dr_⟩
  case round =>
   clear H'
   try clear c1
   try clear p2
   try clear c3
   try clear c3b0
   try clear c3b1
   try clear c3b2
   obtain ⟨x5_1, rfl, HA, HK1, ⟨m1, rfl⟩⟩ := hrel
   cases gk with
   | zero => exact absurd HA.out (by simp [r08_Items.l0])
   | succ k1 =>
    have H := HA.out
    clear HA
    simp only [r08_Items.l0] at H
    by_cases c4 : x5_1 < (l0.length : Int)
    ·
     rw [if_pos c4] at H
     have c4b0 : decide (x5_1 < (l0.length : Int)) = true := decide_eq_true c4
     clear c4
     obtain ⟨c5b0, H⟩ := gdd H
     obtain ⟨c6b0, H⟩ := gdd H
     by_cases c7 : (!(((rd_T54 l0 x5_1).f0) == ((rd_T54 l1 x5_1).f0)) || (!((((rd_T54 l0 x5_1).f1).toList) == (((rd_T54 l1 x5_1).f1).toList)) || ((!(((rd_T54 l0 x5_1).f2.f0) == ((rd_T54 l1 x5_1).f2.f0)) || ((!(((rd_T54 l0 x5_1).f2.f1.f0) == ((rd_T54 l1 x5_1).f2.f1.f0)) || (!(((rd_T54 l0 x5_1).f2.f1.f1) == ((rd_T54 l1 x5_1).f2.f1.f1)))) || (!(((rd_T54 l0 x5_1).f2.f2) == ((rd_T54 l1 x5_1).f2.f2)) || (!(((rd_T54 l0 x5_1).f2.f3) == ((rd_T54 l1 x5_1).f2.f3))))))))) = true
     ·
      rw [if_pos c7] at H
      have c7b0 : (!(((rd_T54 l0 x5_1).f0) == ((rd_T54 l1 x5_1).f0)) || (!((((rd_T54 l0 x5_1).f1).toList) == (((rd_T54 l1 x5_1).f1).toList)) || ((!(((rd_T54 l0 x5_1).f2.f0) == ((rd_T54 l1 x5_1).f2.f0)) || ((!(((rd_T54 l0 x5_1).f2.f1.f0) == ((rd_T54 l1 x5_1).f2.f1.f0)) || (!(((rd_T54 l0 x5_1).f2.f1.f1) == ((rd_T54 l1 x5_1).f2.f1.f1)))) || (!(((rd_T54 l0 x5_1).f2.f2) == ((rd_T54 l1 x5_1).f2.f2)) || (!(((rd_T54 l0 x5_1).f2.f3) == ((rd_T54 l1 x5_1).f2.f3))))))))) = true := c7
      clear c7
      obtain rfl := Option.some.inj H
      have p336 : 0 ≤ (x5_1 : Int) := od
      have q336 : x5_1 < (l0.length : Int) := od
      obtain ⟨ad336, e336, hx336_0, hx336_1, hx336_2, hx336_3, hx336_4, hx336_5, hx336_6⟩ := at_T54 HR0.out x5_1 p336 q336
      cases e336
      replace p336 := eq_true p336
      replace q336 := eq_true q336
      have p337 : 0 ≤ (x5_1 : Int) := od
      have q337 : x5_1 < (l1.length : Int) := od
      obtain ⟨ad337, e337, hx337_0, hx337_1, hx337_2, hx337_3, hx337_4, hx337_5, hx337_6⟩ := at_T54 HR1.out x5_1 p337 q337
      cases e337
      replace p337 := eq_true p337
      replace q337 := eq_true q337
      go_wp2
      repeat (go_quiet (fail); try go_wp2)
      go_ret
      exact ⟨rs_, dr_⟩
     ·
      rw [if_neg c7] at H
      have c7b0 : (!(((rd_T54 l0 x5_1).f0) == ((rd_T54 l1 x5_1).f0)) || (!((((rd_T54 l0 x5_1).f1).toList) == (((rd_T54 l1 x5_1).f1).toList)) || ((!(((rd_T54 l0 x5_1).f2.f0) == ((rd_T54 l1 x5_1).f2.f0)) || ((!(((rd_T54 l0 x5_1).f2.f1.f0) == ((rd_T54 l1 x5_1).f2.f1.f0)) || (!(((rd_T54 l0 x5_1).f2.f1.f1) == ((rd_T54 l1 x5_1).f2.f1.f1)))) || (!(((rd_T54 l0 x5_1).f2.f2) == ((rd_T54 l1 x5_1).f2.f2)) || (!(((rd_T54 l0 x5_1).f2.f3) == ((rd_T54 l1 x5_1).f2.f3))))))))) = false := by simpa using c7
      clear c7
      have H' := Aside0.mk H
      clear H
      have p336 : 0 ≤ (x5_1 : Int) := od
      have q336 : x5_1 < (l0.length : Int) := od
      obtain ⟨ad336, e336, hx336_0, hx336_1, hx336_2, hx336_3, hx336_4, hx336_5, hx336_6⟩ := at_T54 HR0.out x5_1 p336 q336
      cases e336
      replace p336 := eq_true p336
      replace q336 := eq_true q336
      have p337 : 0 ≤ (x5_1 : Int) := od
      have q337 : x5_1 < (l1.length : Int) := od
      obtain ⟨ad337, e337, hx337_0, hx337_1, hx337_2, hx337_3, hx337_4, hx337_5, hx337_6⟩ := at_T54 HR1.out x5_1 p337 q337
      cases e337
      replace p337 := eq_true p337
      replace q337 := eq_true q337
      go_wp2
      repeat (go_quiet (fail); try go_wp2)
      go_roundg k1
      case measure => have := HK1.out; omega
      case rel => exact ⟨(wrap64 (x5_1 + 1)), rs_, H', ⟨by have := HK1.out; omega⟩, dr_⟩
    ·
     rw [if_neg c4] at H
     have c4b0 : decide (x5_1 < (l0.length : Int)) = false := decide_eq_false c4
     clear c4
     obtain rfl := Option.some.inj H
     go_wp2
     repeat (go_quiet (fail); try go_wp2)
     go_ret
     exact ⟨rs_, dr_⟩
 ·
  rw [if_neg c3] at H
  have c3b0 : ((l0.length : Int) == (l1.length : Int)) = false := beq_eq_false_iff_ne.mpr c3
  have c3b1 : ((l0.length : Int) != (l1.length : Int)) = true := bne_iff_ne.mpr c3
  have c3b2 : (l0.length == l1.length) = false := by first | simpa using c3 | (simp at c3 ⊢; omega)
  obtain rfl := Option.some.inj H
  go_enter Try.func17, Try.ntmps17
  go_wp2
  repeat (go_quiet (fail); try go_wp2)
  go_ret
  exact ⟨rs_, dr_⟩
def r10_At.l0 : Nat → List (S82) → Int → Int → Int → Int → Bool → Int → Int → Option (Int × Int × Bool × Int × Int)
 | 0, _, _, _, _, _, _, _, _ => none
 | k + 1, x0, x1, x6, x340000, x340001, x340002, x340003, x340004 => if x6 < (x0.length : Int) then (if 0 ≤ x6 then (if ((rd_T82 x0 x6).f0) ≤ x1 then (r10_At.l0 k x0 x1 (wrap64 (x6 + 1)) ((rd_T82 x0 x6).f1.f0) ((rd_T82 x0 x6).f1.f1.f0) ((rd_T82 x0 x6).f1.f1.f1) ((rd_T82 x0 x6).f1.f2) ((rd_T82 x0 x6).f1.f3)) else (r10_At.l0 k x0 x1 (wrap64 (x6 + 1)) x340000 x340001 x340002 x340003 x340004)) else (none)) else (some (x340000, x340001, x340002, x340003, x340004))
def r10_At.f (k : Nat) (l0 : List (S82)) (a1 : Int) : Option (Int × Int × Bool × Int × Int) := r10_At.l0 k l0 a1 0 0 0 false 0 0
theorem r10_At.mono_l : ∀ k, (∀ y0 y1 y2 y3 y4 y5 y6 y7, LeC (r10_At.l0 k y0 y1 y2 y3 y4 y5 y6 y7) (r10_At.l0 (k + 1) y0 y1 y2 y3 y4 y5 y6 y7))
 | 0 => fun _ _ _ _ _ _ _ _ => ⟨fun r h => by simp [r10_At.l0] at h⟩
 | k + 1 => by have ih0 := r10_At.mono_l k; exact fun _ _ _ _ _ _ _ _ => by unfold r10_At.l0; exact lm
theorem r10_At.mono : ∀ a0 a1 k, LeO (r10_At.f k a0 a1) (r10_At.f (k + 1) a0 a1) := by
 intro a0 a1 k
 have ih0 := r10_At.mono_l k
 unfold r10_At.f
 exact lo
instance r10_At.mI {a0 a1 k} : LeC (r10_At.f k a0 a1) (r10_At.f (k + 1) a0 a1) := ⟨r10_At.mono _ _ _⟩
theorem r10_At.calls (k : Nat) (A0 : Option Addr) (c0 : Nat) (l0 : List (S82)) (a1 : Int) (r1 : Int) (r2 : Int) (r3 : Bool) (r4 : Int) (r5 : Int) (w : World) (hr0 : Kd.C k82 w A0 l0.length l0) (hc0 : l0.length ≤ c0) (h : r10_At.f k l0 a1 = some (r1, r2, r3, r4, r5)) :
 Calls Try.prog 38 #[.slice A0 l0.length c0, .int .i64 a1] w fun e w' => e = .returned (.agg #[.int .i64 r1, .int .i64 r2, .bool r3, .int .i64 r4, .int .i64 r5]) ∧ Below w.heap.size w w' := by
 have hu52 := Try.underlying52
 have HR0 := Aside0.mk hr0
 have HC0 := Aside0.mk hc0
 clear hr0 hc0
 have HB := Aside0.mk (Below.refl w.heap.size w)
 have H : (r10_At.l0 k l0 a1 0 0 0 false 0 0) = some (r1, r2, r3, r4, r5) := h
 clear h
 have H' := Aside0.mk H
 clear H
 go_enter Try.func38, Try.ntmps38
 go_wp2_with (first | ((with_reducible refine gate_dst (N := 4) rfl ?_); refine bx (N := 4) #[.int .i64 0, .int .i64 0, .bool false, .int .i64 0, .int .i64 0] 52 ?_; intro gb338 hg w3 hbox hb; have BK338 := Aside0.mk (hbox); have GW338 := gw hg (uW HB.out); have GE338 := GW338; replace HB := cW HB hb; clear hb hbox hg) | ((with_reducible refine gate_dst (N := 5) rfl ?_); refine bx (N := 5) #[.int .i64 0, .int .i64 0, .bool false, .int .i64 0, .int .i64 0] 52 ?_; intro gb339 hg w4 hbox hb; have BK339 := Aside0.mk (hbox); have GW339 := gw hg bl; have GE339 := GW339; replace HB := Aside0.mk (below_step bl hb); have NB338_339 := Aside0.mk ((by rw [hg]; exact Nat.ne_of_lt (blk_lt (g := gb338) (o := .cells #[.int .i64 0, .int .i64 0, .bool false, .int .i64 0, .int .i64 0] 52 (0, 0)) (uB BK338.out)) : gb338 ≠ gb339)); have NB339_338 := Aside0.mk ((by rw [hg]; exact Nat.ne_of_gt (blk_lt (g := gb338) (o := .cells #[.int .i64 0, .int .i64 0, .bool false, .int .i64 0, .int .i64 0] 52 (0, 0)) (uB BK338.out)) : gb339 ≠ gb338)); replace BK338 := cB BK338 hb; clear hb hbox hg; have hnb5 := NB339_338.out; have hnc5 := NB338_339.out; obtain ⟨hcz6_0, hcz6_1, hcz6_2, hcz6_3, hcz6_4, hfz6_0, hfz6_1, hfz6_2, hfz6_3, hfz6_4⟩ := z5 BK339) | ((with_reducible refine gate_store (t := 52) (p := 5) rfl ?_); refine store_event (t := 52) (p := 5) (v := ?vo_w7) (w1 := (((((w4.setCell ⟨gb339, 0, none⟩ (.int .i64 0)).setCell ⟨gb339, 1, none⟩ (.int .i64 0)).setCell ⟨gb339, 2, none⟩ (.bool false)).setCell ⟨gb339, 3, none⟩ (.int .i64 0)).setCell ⟨gb339, 4, none⟩ (.int .i64 0))) ?hg ?ho ?hn ?hr ?_; (case ho => rfl); (case hg => rfl); (case hn => rfl); (case hr => first | (go_simp; done) | (go_simp; rfl)); intro w7 hw; have n0_ : Aside0 (w7.heap[gb338]? = some (.cells #[.int .i64 0, .int .i64 0, .bool false, .int .i64 0, .int .i64 0] 52 (0, 0))) := ⟨(by rw [hw]; exact (by (with_reducible repeat (first | refine blk_drewN ?_ _ | refine blk_drew ?_ | refine blk_alloc ?_ _)); refine blk_far ?_ NB338_339.out _; (with_reducible repeat (first | refine blk_drewN ?_ _ | refine blk_drew ?_ | refine blk_alloc ?_ _)); refine blk_far ?_ NB338_339.out _; (with_reducible repeat (first | refine blk_drewN ?_ _ | refine blk_drew ?_ | refine blk_alloc ?_ _)); refine blk_far ?_ NB338_339.out _; (with_reducible repeat (first | refine blk_drewN ?_ _ | refine blk_drew ?_ | refine blk_alloc ?_ _)); refine blk_far ?_ NB338_339.out _; (with_reducible repeat (first | refine blk_drewN ?_ _ | refine blk_drew ?_ | refine blk_alloc ?_ _)); refine blk_far ?_ NB338_339.out _; exact uB <| BK338.out))⟩; have n1_ : Aside0 (w7.heap[gb339]? = some (.cells #[.int .i64 0, .int .i64 0, .bool false, .int .i64 0, .int .i64 0] 52 (0, 0))) := ⟨(by rw [hw]; exact (by (with_reducible repeat (first | refine blk_drewN ?_ _ | refine blk_drew ?_ | refine blk_alloc ?_ _)); refine blk_put (cs := #[.int .i64 0, .int .i64 0, .bool false, .int .i64 0, .int .i64 0]) ?_ 4 _ rfl; (with_reducible repeat (first | refine blk_drewN ?_ _ | refine blk_drew ?_ | refine blk_alloc ?_ _)); refine blk_put (cs := #[.int .i64 0, .int .i64 0, .bool false, .int .i64 0, .int .i64 0]) ?_ 3 _ rfl; (with_reducible repeat (first | refine blk_drewN ?_ _ | refine blk_drew ?_ | refine blk_alloc ?_ _)); refine blk_put (cs := #[.int .i64 0, .int .i64 0, .bool false, .int .i64 0, .int .i64 0]) ?_ 2 _ rfl; (with_reducible repeat (first | refine blk_drewN ?_ _ | refine blk_drew ?_ | refine blk_alloc ?_ _)); refine blk_put (cs := #[.int .i64 0, .int .i64 0, .bool false, .int .i64 0, .int .i64 0]) ?_ 1 _ rfl; (with_reducible repeat (first | refine blk_drewN ?_ _ | refine blk_drew ?_ | refine blk_alloc ?_ _)); refine blk_put (cs := #[.int .i64 0, .int .i64 0, .bool false, .int .i64 0, .int .i64 0]) ?_ 0 _ rfl; exact uB <| BK339.out))⟩; have n2_ : Aside0 (Below w.heap.size w w7) := ⟨(by rw [hw]; exact bl)⟩; clear hw; clear BK338; clear BK339; clear HB; have BK338 := n0_; have BK339 := n1_; have HB := n2_; clear n0_ n1_ n2_))
 go_loopg [6] k (fun kq v6 w' => ∃ (x6_1 : Int) (x340000_1 : Int) (x340001_1 : Int) (x340002_1 : Bool) (x340003_1 : Int) (x340004_1 : Int), v6 = .int .i64 x6_1 ∧ Aside0 (r10_At.l0 kq l0 a1 x6_1 x340000_1 x340001_1 x340002_1 x340003_1 x340004_1 = some (r1, r2, r3, r4, r5)) ∧ Aside0 (kq ≤ k) ∧ Aside0 (w'.heap[gb338]? = some (.cells #[.int .i64 0, .int .i64 0, .bool false, .int .i64 0, .int .i64 0] 52 (0, 0))) ∧ Aside0 (w'.heap[gb339]? = some (.cells #[.int .i64 x340000_1, .int .i64 x340001_1, .bool x340002_1, .int .i64 x340003_1, .int .i64 x340004_1] 52 (0, 0))) ∧ Aside0 (Below w.heap.size w w'))
 case atStart => exact ⟨(0), (0), (0), (false), (0), (0), rs_, H', ⟨Nat.le_refl _⟩, ⟨uB BK338.out⟩, ⟨uB BK339.out⟩, ⟨bl⟩⟩
 case round =>
  clear H'
  try clear p2
  try clear c3
  try clear c5
  try clear hcz6_0
  try clear hcz6_1
  try clear hcz6_2
  try clear hcz6_3
  try clear hcz6_4
  try clear hfz6_0
  try clear hfz6_1
  try clear hfz6_2
  try clear hfz6_3
  try clear hfz6_4
  obtain ⟨x6_1, x340000_1, x340001_1, x340002_1, x340003_1, x340004_1, rfl, HA, HK1, BK338, BK339, HB⟩ := hrel
  cases gk with
  | zero => exact absurd HA.out (by simp [r10_At.l0])
  | succ k1 =>
   have H := HA.out
   clear HA
   simp only [r10_At.l0] at H
   by_cases c8 : x6_1 < (l0.length : Int)
   ·
    rw [if_pos c8] at H
    have c8b0 : decide (x6_1 < (l0.length : Int)) = true := decide_eq_true c8
    clear c8
    obtain ⟨c9b0, H⟩ := gdd H
    by_cases c10 : ((rd_T82 l0 x6_1).f0) ≤ a1
    ·
     rw [if_pos c10] at H
     have c10b0 : decide (((rd_T82 l0 x6_1).f0) ≤ a1) = true := decide_eq_true c10
     clear c10
     have H' := Aside0.mk H
     clear H
     have p340 : 0 ≤ (x6_1 : Int) := od
     have q340 : x6_1 < (l0.length : Int) := od
     obtain ⟨ad340, e340, hx340_0, hx340_1, hx340_2, hx340_3, hx340_4, hx340_5⟩ := at_T82 HR0.out x6_1 p340 q340
     cases e340
     replace hx340_0 := kc HB hx340_0
     replace hx340_1 := kc HB hx340_1
     replace hx340_2 := kc HB hx340_2
     replace hx340_3 := kc HB hx340_3
     replace hx340_4 := kc HB hx340_4
     replace hx340_5 := kc HB hx340_5
     replace p340 := eq_true p340
     replace q340 := eq_true q340
     have p341 : 0 ≤ (x6_1 : Int) := od
     have q341 : x6_1 < (l0.length : Int) := od
     obtain ⟨ad341, e341, hx341_0, hx341_1, hx341_2, hx341_3, hx341_4, hx341_5⟩ := at_T82 HR0.out x6_1 p341 q341
     obtain rfl : ad340 = ad341 := (by injection e341)
     replace hx341_0 := kc HB hx341_0
     replace hx341_1 := kc HB hx341_1
     replace hx341_2 := kc HB hx341_2
     replace hx341_3 := kc HB hx341_3
     replace hx341_4 := kc HB hx341_4
     replace hx341_5 := kc HB hx341_5
     replace p341 := eq_true p341
     replace q341 := eq_true q341
     have hnb11 := NB339_338.out
     have hnc11 := NB338_339.out
     obtain ⟨hcz12_0, hcz12_1, hcz12_2, hcz12_3, hcz12_4, hfz12_0, hfz12_1, hfz12_2, hfz12_3, hfz12_4⟩ := z5 BK339
     go_wp2_with (first | ((with_reducible refine gate_store (t := 52) (p := 5) rfl ?_); refine store_event (t := 52) (p := 5) (v := ?vo_w13) (w1 := (((((wr.setCell ⟨gb339, 0, none⟩ (.int .i64 ((rd_T82 l0 x6_1).f1.f0))).setCell ⟨gb339, 1, none⟩ (.int .i64 ((rd_T82 l0 x6_1).f1.f1.f0))).setCell ⟨gb339, 2, none⟩ (.bool ((rd_T82 l0 x6_1).f1.f1.f1))).setCell ⟨gb339, 3, none⟩ (.int .i64 ((rd_T82 l0 x6_1).f1.f2))).setCell ⟨gb339, 4, none⟩ (.int .i64 ((rd_T82 l0 x6_1).f1.f3)))) ?hg ?ho ?hn ?hr ?_; (case ho => rfl); (case hg => rfl); (case hn => rfl); (case hr => first | (go_simp; done) | (go_simp; rfl)); intro w13 hw; have n0_ : Aside0 (w13.heap[gb338]? = some (.cells #[.int .i64 0, .int .i64 0, .bool false, .int .i64 0, .int .i64 0] 52 (0, 0))) := ⟨(by rw [hw]; exact (by (with_reducible repeat (first | refine blk_drewN ?_ _ | refine blk_drew ?_ | refine blk_alloc ?_ _)); refine blk_far ?_ NB338_339.out _; (with_reducible repeat (first | refine blk_drewN ?_ _ | refine blk_drew ?_ | refine blk_alloc ?_ _)); refine blk_far ?_ NB338_339.out _; (with_reducible repeat (first | refine blk_drewN ?_ _ | refine blk_drew ?_ | refine blk_alloc ?_ _)); refine blk_far ?_ NB338_339.out _; (with_reducible repeat (first | refine blk_drewN ?_ _ | refine blk_drew ?_ | refine blk_alloc ?_ _)); refine blk_far ?_ NB338_339.out _; (with_reducible repeat (first | refine blk_drewN ?_ _ | refine blk_drew ?_ | refine blk_alloc ?_ _)); refine blk_far ?_ NB338_339.out _; exact uB <| BK338.out))⟩; have n1_ : Aside0 (w13.heap[gb339]? = some (.cells #[.int .i64 ((rd_T82 l0 x6_1).f1.f0), .int .i64 ((rd_T82 l0 x6_1).f1.f1.f0), .bool ((rd_T82 l0 x6_1).f1.f1.f1), .int .i64 ((rd_T82 l0 x6_1).f1.f2), .int .i64 ((rd_T82 l0 x6_1).f1.f3)] 52 (0, 0))) := ⟨(by rw [hw]; exact (by (with_reducible repeat (first | refine blk_drewN ?_ _ | refine blk_drew ?_ | refine blk_alloc ?_ _)); refine blk_put (cs := #[.int .i64 ((rd_T82 l0 x6_1).f1.f0), .int .i64 ((rd_T82 l0 x6_1).f1.f1.f0), .bool ((rd_T82 l0 x6_1).f1.f1.f1), .int .i64 ((rd_T82 l0 x6_1).f1.f2), .int .i64 x340004_1]) ?_ 4 _ rfl; (with_reducible repeat (first | refine blk_drewN ?_ _ | refine blk_drew ?_ | refine blk_alloc ?_ _)); refine blk_put (cs := #[.int .i64 ((rd_T82 l0 x6_1).f1.f0), .int .i64 ((rd_T82 l0 x6_1).f1.f1.f0), .bool ((rd_T82 l0 x6_1).f1.f1.f1), .int .i64 x340003_1, .int .i64 x340004_1]) ?_ 3 _ rfl; (with_reducible repeat (first | refine blk_drewN ?_ _ | refine blk_drew ?_ | refine blk_alloc ?_ _)); refine blk_put (cs := #[.int .i64 ((rd_T82 l0 x6_1).f1.f0), .int .i64 ((rd_T82 l0 x6_1).f1.f1.f0), .bool x340002_1, .int .i64 x340003_1, .int .i64 x340004_1]) ?_ 2 _ rfl; (with_reducible repeat (first | refine blk_drewN ?_ _ | refine blk_drew ?_ | refine blk_alloc ?_ _)); refine blk_put (cs := #[.int .i64 ((rd_T82 l0 x6_1).f1.f0), .int .i64 x340001_1, .bool x340002_1, .int .i64 x340003_1, .int .i64 x340004_1]) ?_ 1 _ rfl; (with_reducible repeat (first | refine blk_drewN ?_ _ | refine blk_drew ?_ | refine blk_alloc ?_ _)); refine blk_put (cs := #[.int .i64 x340000_1, .int .i64 x340001_1, .bool x340002_1, .int .i64 x340003_1, .int .i64 x340004_1]) ?_ 0 _ rfl; exact uB <| BK339.out))⟩; have n2_ : Aside0 (Below w.heap.size w w13) := ⟨(by rw [hw]; exact bl)⟩; clear hw; clear BK338; clear BK339; clear HB; have BK338 := n0_; have BK339 := n1_; have HB := n2_; clear n0_ n1_ n2_))
     go_roundg k1
     case measure => have := HK1.out; omega
     case rel => exact ⟨(wrap64 (x6_1 + 1)), ((rd_T82 l0 x6_1).f1.f0), ((rd_T82 l0 x6_1).f1.f1.f0), ((rd_T82 l0 x6_1).f1.f1.f1), ((rd_T82 l0 x6_1).f1.f2), ((rd_T82 l0 x6_1).f1.f3), rs_, H', ⟨by have := HK1.out; omega⟩, ⟨uB BK338.out⟩, ⟨uB BK339.out⟩, ⟨bl⟩⟩
    ·
     rw [if_neg c10] at H
     have c10b0 : decide (((rd_T82 l0 x6_1).f0) ≤ a1) = false := decide_eq_false c10
     clear c10
     have H' := Aside0.mk H
     clear H
     have p340 : 0 ≤ (x6_1 : Int) := od
     have q340 : x6_1 < (l0.length : Int) := od
     obtain ⟨ad340, e340, hx340_0, hx340_1, hx340_2, hx340_3, hx340_4, hx340_5⟩ := at_T82 HR0.out x6_1 p340 q340
     cases e340
     replace hx340_0 := kc HB hx340_0
     replace hx340_1 := kc HB hx340_1
     replace hx340_2 := kc HB hx340_2
     replace hx340_3 := kc HB hx340_3
     replace hx340_4 := kc HB hx340_4
     replace hx340_5 := kc HB hx340_5
     replace p340 := eq_true p340
     replace q340 := eq_true q340
     go_wp2
     go_roundg k1
     case measure => have := HK1.out; omega
     case rel => exact ⟨(wrap64 (x6_1 + 1)), (x340000_1), (x340001_1), (x340002_1), (x340003_1), (x340004_1), rs_, H', ⟨by have := HK1.out; omega⟩, ⟨uB BK338.out⟩, ⟨uB BK339.out⟩, ⟨bl⟩⟩
   ·
    rw [if_neg c8] at H
    have c8b0 : decide (x6_1 < (l0.length : Int)) = false := decide_eq_false c8
    clear c8
    simp only [Option.some.injEq, Prod.mk.injEq] at H
    obtain ⟨rfl, rfl, rfl, rfl, rfl⟩ := H
    have hnb14 := NB339_338.out
    have hnc14 := NB338_339.out
    obtain ⟨hcz15_0, hcz15_1, hcz15_2, hcz15_3, hcz15_4, hfz15_0, hfz15_1, hfz15_2, hfz15_3, hfz15_4⟩ := z5 BK339
    obtain ⟨hcz16_0, hcz16_1, hcz16_2, hcz16_3, hcz16_4, hfz16_0, hfz16_1, hfz16_2, hfz16_3, hfz16_4⟩ := z5 BK338
    go_wp2_with (first | ((with_reducible refine gate_store (t := 52) (p := 4) rfl ?_); refine store_event (t := 52) (p := 4) (v := ?vo_w17) (w1 := (((((wr.setCell ⟨gb338, 0, none⟩ (.int .i64 x340000_1)).setCell ⟨gb338, 1, none⟩ (.int .i64 x340001_1)).setCell ⟨gb338, 2, none⟩ (.bool x340002_1)).setCell ⟨gb338, 3, none⟩ (.int .i64 x340003_1)).setCell ⟨gb338, 4, none⟩ (.int .i64 x340004_1))) ?hg ?ho ?hn ?hr ?_; (case ho => rfl); (case hg => rfl); (case hn => rfl); (case hr => first | (go_simp; done) | (go_simp; rfl)); intro w17 hw; have n0_ : Aside0 (w17.heap[gb338]? = some (.cells #[.int .i64 x340000_1, .int .i64 x340001_1, .bool x340002_1, .int .i64 x340003_1, .int .i64 x340004_1] 52 (0, 0))) := ⟨(by rw [hw]; exact (by (with_reducible repeat (first | refine blk_drewN ?_ _ | refine blk_drew ?_ | refine blk_alloc ?_ _)); refine blk_put (cs := #[.int .i64 x340000_1, .int .i64 x340001_1, .bool x340002_1, .int .i64 x340003_1, .int .i64 0]) ?_ 4 _ rfl; (with_reducible repeat (first | refine blk_drewN ?_ _ | refine blk_drew ?_ | refine blk_alloc ?_ _)); refine blk_put (cs := #[.int .i64 x340000_1, .int .i64 x340001_1, .bool x340002_1, .int .i64 0, .int .i64 0]) ?_ 3 _ rfl; (with_reducible repeat (first | refine blk_drewN ?_ _ | refine blk_drew ?_ | refine blk_alloc ?_ _)); refine blk_put (cs := #[.int .i64 x340000_1, .int .i64 x340001_1, .bool false, .int .i64 0, .int .i64 0]) ?_ 2 _ rfl; (with_reducible repeat (first | refine blk_drewN ?_ _ | refine blk_drew ?_ | refine blk_alloc ?_ _)); refine blk_put (cs := #[.int .i64 x340000_1, .int .i64 0, .bool false, .int .i64 0, .int .i64 0]) ?_ 1 _ rfl; (with_reducible repeat (first | refine blk_drewN ?_ _ | refine blk_drew ?_ | refine blk_alloc ?_ _)); refine blk_put (cs := #[.int .i64 0, .int .i64 0, .bool false, .int .i64 0, .int .i64 0]) ?_ 0 _ rfl; exact uB <| BK338.out))⟩; have n1_ : Aside0 (w17.heap[gb339]? = some (.cells #[.int .i64 x340000_1, .int .i64 x340001_1, .bool x340002_1, .int .i64 x340003_1, .int .i64 x340004_1] 52 (0, 0))) := ⟨(by rw [hw]; exact (by (with_reducible repeat (first | refine blk_drewN ?_ _ | refine blk_drew ?_ | refine blk_alloc ?_ _)); refine blk_far ?_ NB339_338.out _; (with_reducible repeat (first | refine blk_drewN ?_ _ | refine blk_drew ?_ | refine blk_alloc ?_ _)); refine blk_far ?_ NB339_338.out _; (with_reducible repeat (first | refine blk_drewN ?_ _ | refine blk_drew ?_ | refine blk_alloc ?_ _)); refine blk_far ?_ NB339_338.out _; (with_reducible repeat (first | refine blk_drewN ?_ _ | refine blk_drew ?_ | refine blk_alloc ?_ _)); refine blk_far ?_ NB339_338.out _; (with_reducible repeat (first | refine blk_drewN ?_ _ | refine blk_drew ?_ | refine blk_alloc ?_ _)); refine blk_far ?_ NB339_338.out _; exact uB <| BK339.out))⟩; have n2_ : Aside0 (Below w.heap.size w w17) := ⟨(by rw [hw]; exact bl)⟩; clear hw; clear BK338; clear BK339; clear HB; have BK338 := n0_; have BK339 := n1_; have HB := n2_; clear n0_ n1_ n2_))
    refine bodyPost_ret (results_cell_row rfl _ _ gb338 52 #[.int .i64 x340000_1, .int .i64 x340001_1, .bool x340002_1, .int .i64 x340003_1, .int .i64 x340004_1] (0, 0) _ rfl (uB BK338.out) Try.underlying52 rfl (by kernel_rfl)) rfl ?_
    exact ⟨re_, bl⟩
def r11_Dropped.l0 : Nat → List (S39) → Int → Int → Int → Option (Bool)
 | 0, _, _, _, _ => none
 | k + 1, x0, x1, x2, x7 => if x7 < (x0.length : Int) then (if 0 ≤ x7 then (if ((rd_T39 x0 x7).f0) = x1 then (if ((rd_T39 x0 x7).f1) ≤ x2 then (some true) else (r11_Dropped.l0 k x0 x1 x2 (wrap64 (x7 + 1)))) else (r11_Dropped.l0 k x0 x1 x2 (wrap64 (x7 + 1)))) else (none)) else (some false)
def r11_Dropped.f (k : Nat) (l0 : List (S39)) (a1 : Int) (a2 : Int) : Option (Bool) := r11_Dropped.l0 k l0 a1 a2 0
theorem r11_Dropped.mono_l : ∀ k, (∀ y0 y1 y2 y3, LeC (r11_Dropped.l0 k y0 y1 y2 y3) (r11_Dropped.l0 (k + 1) y0 y1 y2 y3))
 | 0 => fun _ _ _ _ => ⟨fun r h => by simp [r11_Dropped.l0] at h⟩
 | k + 1 => by have ih0 := r11_Dropped.mono_l k; exact fun _ _ _ _ => by unfold r11_Dropped.l0; exact lm
theorem r11_Dropped.mono : ∀ a0 a1 a2 k, LeO (r11_Dropped.f k a0 a1 a2) (r11_Dropped.f (k + 1) a0 a1 a2) := by
 intro a0 a1 a2 k
 have ih0 := r11_Dropped.mono_l k
 unfold r11_Dropped.f
 exact lo
instance r11_Dropped.mI {a0 a1 a2 k} : LeC (r11_Dropped.f k a0 a1 a2) (r11_Dropped.f (k + 1) a0 a1 a2) := ⟨r11_Dropped.mono _ _ _ _⟩
theorem r11_Dropped.calls (k : Nat) (A0 : Option Addr) (c0 : Nat) (l0 : List (S39)) (a1 : Int) (a2 : Int) (r : Bool) (w : World) (hr0 : Kd.C k39 w A0 l0.length l0) (hc0 : l0.length ≤ c0) (h : r11_Dropped.f k l0 a1 a2 = some r) :
 Calls Try.prog 39 #[.slice A0 l0.length c0, .int .i64 a1, .int .i64 a2] w fun e w' => e = .returned (.bool r) ∧ Drawn0 w w' := by
 have HR0 := Aside0.mk hr0
 have HC0 := Aside0.mk hc0
 clear hr0 hc0
 have H : (r11_Dropped.l0 k l0 a1 a2 0) = some r := h
 clear h
 have H' := Aside0.mk H
 clear H
 go_enter Try.func39, Try.ntmps39
 go_wp2
 go_loopg [7] k (fun kq v7 w' => ∃ (x7_1 : Int), v7 = .int .i64 x7_1 ∧ Aside0 (r11_Dropped.l0 kq l0 a1 a2 x7_1 = some r) ∧ Aside0 (kq ≤ k) ∧ Drawn0 w w')
 case atStart => exact ⟨(0), rs_, H', ⟨Nat.le_refl _⟩, dr_⟩
 case round =>
  clear H'
  try clear p2
  try clear c3
  obtain ⟨x7_1, rfl, HA, HK1, ⟨m1, rfl⟩⟩ := hrel
  cases gk with
  | zero => exact absurd HA.out (by simp [r11_Dropped.l0])
  | succ k1 =>
   have H := HA.out
   clear HA
   simp only [r11_Dropped.l0] at H
   by_cases c4 : x7_1 < (l0.length : Int)
   ·
    rw [if_pos c4] at H
    have c4b0 : decide (x7_1 < (l0.length : Int)) = true := decide_eq_true c4
    clear c4
    obtain ⟨c5b0, H⟩ := gdd H
    by_cases c6 : ((rd_T39 l0 x7_1).f0) = a1
    ·
     rw [if_pos c6] at H
     have c6b0 : (((rd_T39 l0 x7_1).f0) == a1) = true := beq_iff_eq.mpr c6
     have c6b1 : (((rd_T39 l0 x7_1).f0) != a1) = false := bne_eq_false_iff_eq.mpr c6
     clear c6
     by_cases c7 : ((rd_T39 l0 x7_1).f1) ≤ a2
     ·
      rw [if_pos c7] at H
      have c7b0 : decide (((rd_T39 l0 x7_1).f1) ≤ a2) = true := decide_eq_true c7
      clear c7
      obtain rfl := Option.some.inj H
      have p342 : 0 ≤ (x7_1 : Int) := od
      have q342 : x7_1 < (l0.length : Int) := od
      obtain ⟨ad342, e342, hx342_0, hx342_1⟩ := at_T39 HR0.out x7_1 p342 q342
      cases e342
      replace p342 := eq_true p342
      replace q342 := eq_true q342
      have p343 : 0 ≤ (x7_1 : Int) := od
      have q343 : x7_1 < (l0.length : Int) := od
      obtain ⟨ad343, e343, hx343_0, hx343_1⟩ := at_T39 HR0.out x7_1 p343 q343
      obtain rfl : ad342 = ad343 := (by injection e343)
      replace p343 := eq_true p343
      replace q343 := eq_true q343
      go_wp2
      go_ret
      exact ⟨rs_, dr_⟩
     ·
      rw [if_neg c7] at H
      have c7b0 : decide (((rd_T39 l0 x7_1).f1) ≤ a2) = false := decide_eq_false c7
      clear c7
      have H' := Aside0.mk H
      clear H
      have p342 : 0 ≤ (x7_1 : Int) := od
      have q342 : x7_1 < (l0.length : Int) := od
      obtain ⟨ad342, e342, hx342_0, hx342_1⟩ := at_T39 HR0.out x7_1 p342 q342
      cases e342
      replace p342 := eq_true p342
      replace q342 := eq_true q342
      have p343 : 0 ≤ (x7_1 : Int) := od
      have q343 : x7_1 < (l0.length : Int) := od
      obtain ⟨ad343, e343, hx343_0, hx343_1⟩ := at_T39 HR0.out x7_1 p343 q343
      obtain rfl : ad342 = ad343 := (by injection e343)
      replace p343 := eq_true p343
      replace q343 := eq_true q343
      go_wp2
      go_roundg k1
      case measure => have := HK1.out; omega
      case rel => exact ⟨(wrap64 (x7_1 + 1)), rs_, H', ⟨by have := HK1.out; omega⟩, dr_⟩
    ·
     rw [if_neg c6] at H
     have c6b0 : (((rd_T39 l0 x7_1).f0) == a1) = false := beq_eq_false_iff_ne.mpr c6
     have c6b1 : (((rd_T39 l0 x7_1).f0) != a1) = true := bne_iff_ne.mpr c6
     have H' := Aside0.mk H
     clear H
     have p342 : 0 ≤ (x7_1 : Int) := od
     have q342 : x7_1 < (l0.length : Int) := od
     obtain ⟨ad342, e342, hx342_0, hx342_1⟩ := at_T39 HR0.out x7_1 p342 q342
     cases e342
     replace p342 := eq_true p342
     replace q342 := eq_true q342
     go_wp2
     go_roundg k1
     case measure => have := HK1.out; omega
     case rel => exact ⟨(wrap64 (x7_1 + 1)), rs_, H', ⟨by have := HK1.out; omega⟩, dr_⟩
   ·
    rw [if_neg c4] at H
    have c4b0 : decide (x7_1 < (l0.length : Int)) = false := decide_eq_false c4
    clear c4
    obtain rfl := Option.some.inj H
    go_wp2
    go_ret
    exact ⟨rs_, dr_⟩
def r11_Read.l0 : Nat → Int → List (S39) → List (S54) → Int → List (S59) → Option ((List (S54)))
 | 0, _, _, _, _, _ => none
 | k + 1, x1, x2, x7, x8, x345000 => if x8 < (x345000.length : Int) then (if 0 ≤ x8 then ((r10_At.f k ((rd_T59 x345000 x8).f2) x1).bind fun bt347 => (if bt347.1 ≥ 1 then ((r11_Dropped.f k x2 ((rd_T59 x345000 x8).f0) x1).bind fun t353 => (if t353 = true then (r11_Read.l0 k x1 x2 x7 (wrap64 (x8 + 1)) x345000) else (if x7.length < 2199023255552 then (r11_Read.l0 k x1 x2 (x7 ++ [(⟨(rd_T59 x345000 x8).f0, (rd_T59 x345000 x8).f1, (⟨bt347.1, (⟨bt347.2.1, bt347.2.2.1⟩ : S50), bt347.2.2.2.1, bt347.2.2.2.2⟩ : S52)⟩ : S54)]) (wrap64 (x8 + 1)) x345000) else (none)))) else (r11_Read.l0 k x1 x2 x7 (wrap64 (x8 + 1)) x345000))) else (none)) else (some x7)
def r11_Read.f (k : Nat) (l0_0 : List (S59)) (a1 : Int) (l2 : List (S39)) : Option ((List (S54))) := r11_Read.l0 k a1 l2 ([] : List (S54)) 0 l0_0
theorem r11_Read.mono_l : ∀ k, (∀ y0 y1 y2 y3 y4, LeC (r11_Read.l0 k y0 y1 y2 y3 y4) (r11_Read.l0 (k + 1) y0 y1 y2 y3 y4))
 | 0 => fun _ _ _ _ _ => ⟨fun r h => by simp [r11_Read.l0] at h⟩
 | k + 1 => by have ih0 := r11_Read.mono_l k; exact fun _ _ _ _ _ => by unfold r11_Read.l0; exact lm
theorem r11_Read.mono : ∀ a0 a1 a2 k, LeO (r11_Read.f k a0 a1 a2) (r11_Read.f (k + 1) a0 a1 a2) := by
 intro a0 a1 a2 k
 have ih0 := r11_Read.mono_l k
 unfold r11_Read.f
 exact lo
instance r11_Read.mI {a0 a1 a2 k} : LeC (r11_Read.f k a0 a1 a2) (r11_Read.f (k + 1) a0 a1 a2) := ⟨r11_Read.mono _ _ _ _⟩
theorem r11_Read.calls (k : Nat) (A0_0 : Option Addr) (c0_0 : Nat) (l0_0 : List (S59)) (a1 : Int) (A2 : Option Addr) (c2 : Nat) (l2 : List (S39)) (r : List (S54)) (w : World) (hr0_0 : Kd.C k59 w A0_0 l0_0.length l0_0) (hc0_0 : l0_0.length ≤ c0_0) (hr2 : Kd.C k39 w A2 l2.length l2) (hc2 : l2.length ≤ c2) (h : r11_Read.f k l0_0 a1 l2 = some r) :
 Calls Try.prog 18 #[.agg #[.slice A0_0 l0_0.length c0_0], .int .i64 a1, .slice A2 l2.length c2] w fun e w' => ∃ v0_ : Value, e = .returned (v0_) ∧ Kd.R k54 54 w' w.heap.size (fun _ => True) v0_ r ∧ Below w.heap.size w w' := by
 have hu24 := Try.underlying24
 have hu59 := Try.underlying59
 have hu52 := Try.underlying52
 have hu54 := Try.underlying54
 have HR0_0 := Aside0.mk hr0_0
 have HC0_0 := Aside0.mk hc0_0
 clear hr0_0 hc0_0
 have HR2 := Aside0.mk hr2
 have HC2 := Aside0.mk hc2
 clear hr2 hc2
 have HB := Aside0.mk (Below.refl w.heap.size w)
 have H : (r11_Read.l0 k a1 l2 ([] : List (S54)) 0 l0_0) = some r := h
 clear h
 have H' := Aside0.mk H
 clear H
 go_enter Try.func18, Try.ntmps18
 go_wp2_with (first | ((with_reducible refine gate_dst (N := 3) rfl ?_); refine bx (N := 3) #[.slice A0_0 l0_0.length c0_0] 24 ?_; intro gb344 hg w4 hbox hb; have BK344 := Aside0.mk (hbox); have GW344 := gw hg (uW HB.out); have GE344 := GW344; replace HB := cW HB hb; clear hb hbox hg))
 go_loopg [7, 8] k (fun kq v7 v8 w' => ∃ (x7_1 : List (S54)) (x8_1 : Int), v8 = .int .i64 x8_1 ∧ Aside0 (r11_Read.l0 kq a1 l2 x7_1 x8_1 l0_0 = some r) ∧ Aside0 (kq ≤ k) ∧ Aside0 (Kd.R k54 54 w' w.heap.size (fun _ => True) v7 x7_1) ∧ Aside0 (w'.heap[gb344]? = some (.cells #[(.slice A0_0 l0_0.length c0_0)] 24 (0, 0))) ∧ Aside0 (Below w.heap.size w w'))
 case atStart => exact ⟨(([] : List (S54))), (0), rs_, H', ⟨Nat.le_refl _⟩, ⟨nl_⟩, ⟨uB BK344.out⟩, ⟨bl⟩⟩
 case round =>
  clear H'
  try clear c1
  try clear c2
  try clear p2
  obtain ⟨x7_1, x8_1, rfl, HA, HK1, HO_7, BK344, HB⟩ := hrel
  cases gk with
  | zero => exact absurd HA.out (by simp [r11_Read.l0])
  | succ k1 =>
   have H := HA.out
   clear HA
   simp only [r11_Read.l0] at H
   by_cases c5 : x8_1 < (l0_0.length : Int)
   ·
    rw [if_pos c5] at H
    have c5b0 : decide (x8_1 < (l0_0.length : Int)) = true := decide_eq_true c5
    clear c5
    obtain ⟨c6b0, H⟩ := gdd H
    obtain ⟨⟨t347, t348, t349, t350, t351⟩, A7, H⟩ := bs H
    try dsimp only at H
    by_cases c8 : t347 ≥ 1
    ·
     rw [if_pos c8] at H
     have c8b0 : decide (1 ≤ t347) = true := decide_eq_true c8
     clear c8
     obtain ⟨t353, A9, H⟩ := bs H
     try dsimp only at H
     by_cases c10 : t353 = true
     ·
      subst c10
      rw [if_pos rfl] at H
      have H' := Aside0.mk H
      clear H
      obtain ⟨hcz11_0, hfz11_0⟩ := z1 BK344
      have p345 : 0 ≤ (x8_1 : Int) := od
      have q345 : x8_1 < (l0_0.length : Int) := od
      obtain ⟨ad345, A345_2, c345_2, e345, hx345_0, hx345_1, hx345_2, hl345_2, hi345_2⟩ := at_T59 HR0_0.out x8_1 p345 q345
      cases e345
      replace hx345_0 := kc HB hx345_0
      replace hx345_1 := kc HB hx345_1
      replace hx345_2 := kc HB hx345_2
      have HR345_2 := Aside0.mk hi345_2
      have HC345_2 := Aside0.mk hl345_2
      clear hi345_2 hl345_2
      replace p345 := eq_true p345
      replace q345 := eq_true q345
      go_wp2_with (first | ((with_reducible refine gate_dst (N := 9) rfl ?_); refine bx (N := 9) #[.int .i64 0, .string (⟨#[]⟩ : ByteArray), .slice none 0 0] 59 ?_; intro gb346 hg w12 hbox hb; replace HO_7 := cR HO_7 hb; have BK346 := Aside0.mk (hbox); have GW346 := gw hg bl; have GE346 := GW346; replace HB := Aside0.mk (below_step bl hb); have NB344_346 := Aside0.mk ((by rw [hg]; exact Nat.ne_of_lt (blk_lt (g := gb344) (o := .cells #[.slice (some ad345) l0_0.length c0_0] 24 (0, 0)) (uB BK344.out)) : gb344 ≠ gb346)); have NB346_344 := Aside0.mk ((by rw [hg]; exact Nat.ne_of_gt (blk_lt (g := gb344) (o := .cells #[.slice (some ad345) l0_0.length c0_0] 24 (0, 0)) (uB BK344.out)) : gb346 ≠ gb344)); replace BK344 := cB BK344 hb; clear hb hbox hg; have hnb13 := NB346_344.out; have hnc13 := NB344_346.out; obtain ⟨hcz14_0, hcz14_1, hcz14_2, hfz14_0, hfz14_1, hfz14_2⟩ := z3 BK346) | (refine gL (some 26) rfl Try.func38 #[.slice A345_2 ((rd_T59 l0_0 x8_1).f2).length c345_2, .int .i64 a1] ?_; (with_reducible refine (r10_At.calls k1 _ _ ((rd_T59 l0_0 x8_1).f2) a1 t347 t348 t349 t350 t351 _ ?side1 ?side2 A7.out).mono ?_); (case side1 => exact Kd.C_below HR345_2.out bl); (case side2 => exact HC345_2.out); rintro e w15 ⟨rfl, hb⟩; refine ⟨_, rfl, ?_⟩; replace HO_7 := Aside0.mk (Kd.R_below (by exact uR <| (Kd.R_mono (Kd.R_far (p := ⟨gb346, 2, none⟩) (Kd.R_far (p := ⟨gb346, 1, none⟩) (Kd.R_far (p := ⟨gb346, 0, none⟩) (Kd.R_types HO_7.out BK346.out (by decide)) (fun _ hk => hk.2) (.int .i64 ((rd_T59 l0_0 x8_1).f0))) (fun _ hk => hk.2) (.string ((rd_T59 l0_0 x8_1).f1))) (fun _ hk => hk.2) (.slice A345_2 ((rd_T59 l0_0 x8_1).f2).length c345_2)) (fun _ h_ => h_.1))) hb); replace BK344 := Aside0.mk (blk_below (g := gb344) (o := .cells #[.slice (some ad345) l0_0.length c0_0] 24 (0, 0)) (by (with_reducible repeat (first | refine blk_drewN ?_ _ | refine blk_drew ?_ | refine blk_alloc ?_ _)); refine blk_far ?_ NB344_346.out _; (with_reducible repeat (first | refine blk_drewN ?_ _ | refine blk_drew ?_ | refine blk_alloc ?_ _)); refine blk_far ?_ NB344_346.out _; (with_reducible repeat (first | refine blk_drewN ?_ _ | refine blk_drew ?_ | refine blk_alloc ?_ _)); refine blk_far ?_ NB344_346.out _; exact uB <| BK344.out) hb); replace BK346 := Aside0.mk (blk_below (g := gb346) (o := .cells #[.int .i64 ((rd_T59 l0_0 x8_1).f0), .string ((rd_T59 l0_0 x8_1).f1), .slice A345_2 ((rd_T59 l0_0 x8_1).f2).length c345_2] 59 (0, 0)) (by (with_reducible repeat (first | refine blk_drewN ?_ _ | refine blk_drew ?_ | refine blk_alloc ?_ _)); refine blk_put (cs := #[.int .i64 ((rd_T59 l0_0 x8_1).f0), .string ((rd_T59 l0_0 x8_1).f1), .slice none 0 0]) ?_ 2 _ rfl; (with_reducible repeat (first | refine blk_drewN ?_ _ | refine blk_drew ?_ | refine blk_alloc ?_ _)); refine blk_put (cs := #[.int .i64 ((rd_T59 l0_0 x8_1).f0), .string (⟨#[]⟩ : ByteArray), .slice none 0 0]) ?_ 1 _ rfl; (with_reducible repeat (first | refine blk_drewN ?_ _ | refine blk_drew ?_ | refine blk_alloc ?_ _)); refine blk_put (cs := #[.int .i64 0, .string (⟨#[]⟩ : ByteArray), .slice none 0 0]) ?_ 0 _ rfl; exact uB <| BK346.out) hb); replace HB := Aside0.mk (below_step bl hb); (try clear hb)) | ((with_reducible refine gate_dst (N := 10) rfl ?_); refine bx (N := 10) #[.int .i64 0, .int .i64 0, .bool false, .int .i64 0, .int .i64 0] 52 ?_; intro gb352 hg w16 hbox hb; replace HO_7 := cR HO_7 hb; have BK352 := Aside0.mk (hbox); have GW352 := gw hg bl; have GE352 := GW352; replace HB := Aside0.mk (below_step bl hb); have NB344_352 := Aside0.mk ((by rw [hg]; exact Nat.ne_of_lt (blk_lt (g := gb344) (o := .cells #[.slice (some ad345) l0_0.length c0_0] 24 (0, 0)) (uB BK344.out)) : gb344 ≠ gb352)); have NB352_344 := Aside0.mk ((by rw [hg]; exact Nat.ne_of_gt (blk_lt (g := gb344) (o := .cells #[.slice (some ad345) l0_0.length c0_0] 24 (0, 0)) (uB BK344.out)) : gb352 ≠ gb344)); replace BK344 := cB BK344 hb; have NB346_352 := Aside0.mk ((by rw [hg]; exact Nat.ne_of_lt (blk_lt (g := gb346) (o := .cells #[.int .i64 ((rd_T59 l0_0 x8_1).f0), .string ((rd_T59 l0_0 x8_1).f1), .slice A345_2 ((rd_T59 l0_0 x8_1).f2).length c345_2] 59 (0, 0)) (uB BK346.out)) : gb346 ≠ gb352)); have NB352_346 := Aside0.mk ((by rw [hg]; exact Nat.ne_of_gt (blk_lt (g := gb346) (o := .cells #[.int .i64 ((rd_T59 l0_0 x8_1).f0), .string ((rd_T59 l0_0 x8_1).f1), .slice A345_2 ((rd_T59 l0_0 x8_1).f2).length c345_2] 59 (0, 0)) (uB BK346.out)) : gb352 ≠ gb346)); replace BK346 := cB BK346 hb; clear hb hbox hg; have hnb17 := NB352_344.out; have hnc17 := NB344_352.out; have hnb18 := NB352_346.out; have hnc18 := NB346_352.out; obtain ⟨hcz19_0, hcz19_1, hcz19_2, hcz19_3, hcz19_4, hfz19_0, hfz19_1, hfz19_2, hfz19_3, hfz19_4⟩ := z5 BK352) | ((with_reducible refine gate_store (t := 52) (p := 10) rfl ?_); refine store_event (t := 52) (p := 10) (v := ?vo_w20) (w1 := (((((w16.setCell ⟨gb352, 0, none⟩ (.int .i64 t347)).setCell ⟨gb352, 1, none⟩ (.int .i64 t348)).setCell ⟨gb352, 2, none⟩ (.bool t349)).setCell ⟨gb352, 3, none⟩ (.int .i64 t350)).setCell ⟨gb352, 4, none⟩ (.int .i64 t351))) ?hg ?ho ?hn ?hr ?_; (case ho => rfl); (case hg => rfl); (case hn => rfl); (case hr => first | (go_simp; done) | (go_simp; rfl)); intro w20 hw; have n0_ : Aside0 (Kd.R k54 54 w20 w.heap.size (fun _ => True) u7 x7_1) := ⟨(by rw [hw]; exact (by exact uR <| Kd.R_mono (Kd.R_far (p := ⟨gb352, 4, none⟩) (Kd.R_far (p := ⟨gb352, 3, none⟩) (Kd.R_far (p := ⟨gb352, 2, none⟩) (Kd.R_far (p := ⟨gb352, 1, none⟩) (Kd.R_far (p := ⟨gb352, 0, none⟩) (Kd.R_types HO_7.out BK352.out (by decide)) (fun _ hk => hk.2) (.int .i64 t347)) (fun _ hk => hk.2) (.int .i64 t348)) (fun _ hk => hk.2) (.bool t349)) (fun _ hk => hk.2) (.int .i64 t350)) (fun _ hk => hk.2) (.int .i64 t351)) (fun _ hk => trivial)))⟩; have n1_ : Aside0 (w20.heap[gb344]? = some (.cells #[.slice (some ad345) l0_0.length c0_0] 24 (0, 0))) := ⟨(by rw [hw]; exact (by (with_reducible repeat (first | refine blk_drewN ?_ _ | refine blk_drew ?_ | refine blk_alloc ?_ _)); refine blk_far ?_ NB344_352.out _; (with_reducible repeat (first | refine blk_drewN ?_ _ | refine blk_drew ?_ | refine blk_alloc ?_ _)); refine blk_far ?_ NB344_352.out _; (with_reducible repeat (first | refine blk_drewN ?_ _ | refine blk_drew ?_ | refine blk_alloc ?_ _)); refine blk_far ?_ NB344_352.out _; (with_reducible repeat (first | refine blk_drewN ?_ _ | refine blk_drew ?_ | refine blk_alloc ?_ _)); refine blk_far ?_ NB344_352.out _; (with_reducible repeat (first | refine blk_drewN ?_ _ | refine blk_drew ?_ | refine blk_alloc ?_ _)); refine blk_far ?_ NB344_352.out _; exact uB <| BK344.out))⟩; have n2_ : Aside0 (w20.heap[gb346]? = some (.cells #[.int .i64 ((rd_T59 l0_0 x8_1).f0), .string ((rd_T59 l0_0 x8_1).f1), .slice A345_2 ((rd_T59 l0_0 x8_1).f2).length c345_2] 59 (0, 0))) := ⟨(by rw [hw]; exact (by (with_reducible repeat (first | refine blk_drewN ?_ _ | refine blk_drew ?_ | refine blk_alloc ?_ _)); refine blk_far ?_ NB346_352.out _; (with_reducible repeat (first | refine blk_drewN ?_ _ | refine blk_drew ?_ | refine blk_alloc ?_ _)); refine blk_far ?_ NB346_352.out _; (with_reducible repeat (first | refine blk_drewN ?_ _ | refine blk_drew ?_ | refine blk_alloc ?_ _)); refine blk_far ?_ NB346_352.out _; (with_reducible repeat (first | refine blk_drewN ?_ _ | refine blk_drew ?_ | refine blk_alloc ?_ _)); refine blk_far ?_ NB346_352.out _; (with_reducible repeat (first | refine blk_drewN ?_ _ | refine blk_drew ?_ | refine blk_alloc ?_ _)); refine blk_far ?_ NB346_352.out _; exact uB <| BK346.out))⟩; have n3_ : Aside0 (w20.heap[gb352]? = some (.cells #[.int .i64 t347, .int .i64 t348, .bool t349, .int .i64 t350, .int .i64 t351] 52 (0, 0))) := ⟨(by rw [hw]; exact (by (with_reducible repeat (first | refine blk_drewN ?_ _ | refine blk_drew ?_ | refine blk_alloc ?_ _)); refine blk_put (cs := #[.int .i64 t347, .int .i64 t348, .bool t349, .int .i64 t350, .int .i64 0]) ?_ 4 _ rfl; (with_reducible repeat (first | refine blk_drewN ?_ _ | refine blk_drew ?_ | refine blk_alloc ?_ _)); refine blk_put (cs := #[.int .i64 t347, .int .i64 t348, .bool t349, .int .i64 0, .int .i64 0]) ?_ 3 _ rfl; (with_reducible repeat (first | refine blk_drewN ?_ _ | refine blk_drew ?_ | refine blk_alloc ?_ _)); refine blk_put (cs := #[.int .i64 t347, .int .i64 t348, .bool false, .int .i64 0, .int .i64 0]) ?_ 2 _ rfl; (with_reducible repeat (first | refine blk_drewN ?_ _ | refine blk_drew ?_ | refine blk_alloc ?_ _)); refine blk_put (cs := #[.int .i64 t347, .int .i64 0, .bool false, .int .i64 0, .int .i64 0]) ?_ 1 _ rfl; (with_reducible repeat (first | refine blk_drewN ?_ _ | refine blk_drew ?_ | refine blk_alloc ?_ _)); refine blk_put (cs := #[.int .i64 0, .int .i64 0, .bool false, .int .i64 0, .int .i64 0]) ?_ 0 _ rfl; exact uB <| BK352.out))⟩; have n4_ : Aside0 (Below w.heap.size w w20) := ⟨(by rw [hw]; exact bl)⟩; clear hw; clear HO_7; clear BK344; clear BK346; clear BK352; clear HB; have HO_7 := n0_; have BK344 := n1_; have BK346 := n2_; have BK352 := n3_; have HB := n4_; clear n0_ n1_ n2_ n3_ n4_; obtain ⟨hcz21_0, hcz21_1, hcz21_2, hcz21_3, hcz21_4, hfz21_0, hfz21_1, hfz21_2, hfz21_3, hfz21_4⟩ := z5 BK352; obtain ⟨hcz22_0, hcz22_1, hcz22_2, hfz22_0, hfz22_1, hfz22_2⟩ := z3 BK346) | (go_at_call 39; (with_reducible refine (r11_Dropped.calls k1 _ _ l2 ((rd_T59 l0_0 x8_1).f0) a1 true _ ?side1 ?side2 A9.out).mono ?_); (case side1 => exact uC <| (Kd.C_below HR2.out HB.out)); (case side2 => exact HC2.out); rintro e w' ⟨rfl, ⟨nd, rfl⟩⟩))
      go_roundg k1
      case measure => have := HK1.out; omega
      case rel => exact ⟨(x7_1), (wrap64 (x8_1 + 1)), rs_, H', ⟨by have := HK1.out; omega⟩, ⟨uR HO_7.out⟩, ⟨uB BK344.out⟩, ⟨bl⟩⟩
     ·
      replace c10 := Bool.eq_false_iff.mpr c10
      subst c10
      rw [if_neg (show ¬ (false = true) by decide)] at H
      obtain ⟨c23, H⟩ := gd H
      have LMc23 := Aside0.mk c23
      clear c23
      obtain ⟨y354, hy354⟩ : ∃ y_ : List (S54), y_ = (x7_1 ++ [(⟨(rd_T59 l0_0 x8_1).f0, (rd_T59 l0_0 x8_1).f1, (⟨t347, (⟨t348, t349⟩ : S50), t350, t351⟩ : S52)⟩ : S54)]) := ⟨_, rfl⟩
      replace H : (r11_Read.l0 k1 a1 l2 y354 (wrap64 (x8_1 + 1)) l0_0) = some r := by first | (rw [hy354]; with_reducible exact H) | (have H2_ := (Option.bind_some _ _).symm.trans H; rw [hy354]; with_reducible exact H2_) | (have H2_ := (Option.bind_some _ _).symm.trans H; with_reducible exact H2_) | with_reducible exact H | (rw [hy354]; exact H) | exact H
      have Ny354 := Aside0.mk hy354
      clear hy354
      have H' := Aside0.mk H
      clear H
      obtain ⟨hcz24_0, hfz24_0⟩ := z1 BK344
      have p345 : 0 ≤ (x8_1 : Int) := od
      have q345 : x8_1 < (l0_0.length : Int) := od
      obtain ⟨ad345, A345_2, c345_2, e345, hx345_0, hx345_1, hx345_2, hl345_2, hi345_2⟩ := at_T59 HR0_0.out x8_1 p345 q345
      cases e345
      replace hx345_0 := kc HB hx345_0
      replace hx345_1 := kc HB hx345_1
      replace hx345_2 := kc HB hx345_2
      have HR345_2 := Aside0.mk hi345_2
      have HC345_2 := Aside0.mk hl345_2
      clear hi345_2 hl345_2
      replace p345 := eq_true p345
      replace q345 := eq_true q345
      go_wp2_with (first | ((with_reducible refine gate_dst (N := 9) rfl ?_); refine bx (N := 9) #[.int .i64 0, .string (⟨#[]⟩ : ByteArray), .slice none 0 0] 59 ?_; intro gb346 hg w25 hbox hb; replace HO_7 := cR HO_7 hb; have BK346 := Aside0.mk (hbox); have GW346 := gw hg bl; have GE346 := GW346; replace HB := Aside0.mk (below_step bl hb); have NB344_346 := Aside0.mk ((by rw [hg]; exact Nat.ne_of_lt (blk_lt (g := gb344) (o := .cells #[.slice (some ad345) l0_0.length c0_0] 24 (0, 0)) (uB BK344.out)) : gb344 ≠ gb346)); have NB346_344 := Aside0.mk ((by rw [hg]; exact Nat.ne_of_gt (blk_lt (g := gb344) (o := .cells #[.slice (some ad345) l0_0.length c0_0] 24 (0, 0)) (uB BK344.out)) : gb346 ≠ gb344)); replace BK344 := cB BK344 hb; clear hb hbox hg; have hnb26 := NB346_344.out; have hnc26 := NB344_346.out; obtain ⟨hcz27_0, hcz27_1, hcz27_2, hfz27_0, hfz27_1, hfz27_2⟩ := z3 BK346) | (refine gL (some 26) rfl Try.func38 #[.slice A345_2 ((rd_T59 l0_0 x8_1).f2).length c345_2, .int .i64 a1] ?_; (with_reducible refine (r10_At.calls k1 _ _ ((rd_T59 l0_0 x8_1).f2) a1 t347 t348 t349 t350 t351 _ ?side1 ?side2 A7.out).mono ?_); (case side1 => exact Kd.C_below HR345_2.out bl); (case side2 => exact HC345_2.out); rintro e w28 ⟨rfl, hb⟩; refine ⟨_, rfl, ?_⟩; replace HO_7 := Aside0.mk (Kd.R_below (by exact uR <| (Kd.R_mono (Kd.R_far (p := ⟨gb346, 2, none⟩) (Kd.R_far (p := ⟨gb346, 1, none⟩) (Kd.R_far (p := ⟨gb346, 0, none⟩) (Kd.R_types HO_7.out BK346.out (by decide)) (fun _ hk => hk.2) (.int .i64 ((rd_T59 l0_0 x8_1).f0))) (fun _ hk => hk.2) (.string ((rd_T59 l0_0 x8_1).f1))) (fun _ hk => hk.2) (.slice A345_2 ((rd_T59 l0_0 x8_1).f2).length c345_2)) (fun _ h_ => h_.1))) hb); replace BK344 := Aside0.mk (blk_below (g := gb344) (o := .cells #[.slice (some ad345) l0_0.length c0_0] 24 (0, 0)) (by (with_reducible repeat (first | refine blk_drewN ?_ _ | refine blk_drew ?_ | refine blk_alloc ?_ _)); refine blk_far ?_ NB344_346.out _; (with_reducible repeat (first | refine blk_drewN ?_ _ | refine blk_drew ?_ | refine blk_alloc ?_ _)); refine blk_far ?_ NB344_346.out _; (with_reducible repeat (first | refine blk_drewN ?_ _ | refine blk_drew ?_ | refine blk_alloc ?_ _)); refine blk_far ?_ NB344_346.out _; exact uB <| BK344.out) hb); replace BK346 := Aside0.mk (blk_below (g := gb346) (o := .cells #[.int .i64 ((rd_T59 l0_0 x8_1).f0), .string ((rd_T59 l0_0 x8_1).f1), .slice A345_2 ((rd_T59 l0_0 x8_1).f2).length c345_2] 59 (0, 0)) (by (with_reducible repeat (first | refine blk_drewN ?_ _ | refine blk_drew ?_ | refine blk_alloc ?_ _)); refine blk_put (cs := #[.int .i64 ((rd_T59 l0_0 x8_1).f0), .string ((rd_T59 l0_0 x8_1).f1), .slice none 0 0]) ?_ 2 _ rfl; (with_reducible repeat (first | refine blk_drewN ?_ _ | refine blk_drew ?_ | refine blk_alloc ?_ _)); refine blk_put (cs := #[.int .i64 ((rd_T59 l0_0 x8_1).f0), .string (⟨#[]⟩ : ByteArray), .slice none 0 0]) ?_ 1 _ rfl; (with_reducible repeat (first | refine blk_drewN ?_ _ | refine blk_drew ?_ | refine blk_alloc ?_ _)); refine blk_put (cs := #[.int .i64 0, .string (⟨#[]⟩ : ByteArray), .slice none 0 0]) ?_ 0 _ rfl; exact uB <| BK346.out) hb); replace HB := Aside0.mk (below_step bl hb); (try clear hb)) | ((with_reducible refine gate_dst (N := 10) rfl ?_); refine bx (N := 10) #[.int .i64 0, .int .i64 0, .bool false, .int .i64 0, .int .i64 0] 52 ?_; intro gb352 hg w29 hbox hb; replace HO_7 := cR HO_7 hb; have BK352 := Aside0.mk (hbox); have GW352 := gw hg bl; have GE352 := GW352; replace HB := Aside0.mk (below_step bl hb); have NB344_352 := Aside0.mk ((by rw [hg]; exact Nat.ne_of_lt (blk_lt (g := gb344) (o := .cells #[.slice (some ad345) l0_0.length c0_0] 24 (0, 0)) (uB BK344.out)) : gb344 ≠ gb352)); have NB352_344 := Aside0.mk ((by rw [hg]; exact Nat.ne_of_gt (blk_lt (g := gb344) (o := .cells #[.slice (some ad345) l0_0.length c0_0] 24 (0, 0)) (uB BK344.out)) : gb352 ≠ gb344)); replace BK344 := cB BK344 hb; have NB346_352 := Aside0.mk ((by rw [hg]; exact Nat.ne_of_lt (blk_lt (g := gb346) (o := .cells #[.int .i64 ((rd_T59 l0_0 x8_1).f0), .string ((rd_T59 l0_0 x8_1).f1), .slice A345_2 ((rd_T59 l0_0 x8_1).f2).length c345_2] 59 (0, 0)) (uB BK346.out)) : gb346 ≠ gb352)); have NB352_346 := Aside0.mk ((by rw [hg]; exact Nat.ne_of_gt (blk_lt (g := gb346) (o := .cells #[.int .i64 ((rd_T59 l0_0 x8_1).f0), .string ((rd_T59 l0_0 x8_1).f1), .slice A345_2 ((rd_T59 l0_0 x8_1).f2).length c345_2] 59 (0, 0)) (uB BK346.out)) : gb352 ≠ gb346)); replace BK346 := cB BK346 hb; clear hb hbox hg; have hnb30 := NB352_344.out; have hnc30 := NB344_352.out; have hnb31 := NB352_346.out; have hnc31 := NB346_352.out; obtain ⟨hcz32_0, hcz32_1, hcz32_2, hcz32_3, hcz32_4, hfz32_0, hfz32_1, hfz32_2, hfz32_3, hfz32_4⟩ := z5 BK352) | ((with_reducible refine gate_store (t := 52) (p := 10) rfl ?_); refine store_event (t := 52) (p := 10) (v := ?vo_w33) (w1 := (((((w29.setCell ⟨gb352, 0, none⟩ (.int .i64 t347)).setCell ⟨gb352, 1, none⟩ (.int .i64 t348)).setCell ⟨gb352, 2, none⟩ (.bool t349)).setCell ⟨gb352, 3, none⟩ (.int .i64 t350)).setCell ⟨gb352, 4, none⟩ (.int .i64 t351))) ?hg ?ho ?hn ?hr ?_; (case ho => rfl); (case hg => rfl); (case hn => rfl); (case hr => first | (go_simp; done) | (go_simp; rfl)); intro w33 hw; have n0_ : Aside0 (Kd.R k54 54 w33 w.heap.size (fun _ => True) u7 x7_1) := ⟨(by rw [hw]; exact (by exact uR <| Kd.R_mono (Kd.R_far (p := ⟨gb352, 4, none⟩) (Kd.R_far (p := ⟨gb352, 3, none⟩) (Kd.R_far (p := ⟨gb352, 2, none⟩) (Kd.R_far (p := ⟨gb352, 1, none⟩) (Kd.R_far (p := ⟨gb352, 0, none⟩) (Kd.R_types HO_7.out BK352.out (by decide)) (fun _ hk => hk.2) (.int .i64 t347)) (fun _ hk => hk.2) (.int .i64 t348)) (fun _ hk => hk.2) (.bool t349)) (fun _ hk => hk.2) (.int .i64 t350)) (fun _ hk => hk.2) (.int .i64 t351)) (fun _ hk => trivial)))⟩; have n1_ : Aside0 (w33.heap[gb344]? = some (.cells #[.slice (some ad345) l0_0.length c0_0] 24 (0, 0))) := ⟨(by rw [hw]; exact (by (with_reducible repeat (first | refine blk_drewN ?_ _ | refine blk_drew ?_ | refine blk_alloc ?_ _)); refine blk_far ?_ NB344_352.out _; (with_reducible repeat (first | refine blk_drewN ?_ _ | refine blk_drew ?_ | refine blk_alloc ?_ _)); refine blk_far ?_ NB344_352.out _; (with_reducible repeat (first | refine blk_drewN ?_ _ | refine blk_drew ?_ | refine blk_alloc ?_ _)); refine blk_far ?_ NB344_352.out _; (with_reducible repeat (first | refine blk_drewN ?_ _ | refine blk_drew ?_ | refine blk_alloc ?_ _)); refine blk_far ?_ NB344_352.out _; (with_reducible repeat (first | refine blk_drewN ?_ _ | refine blk_drew ?_ | refine blk_alloc ?_ _)); refine blk_far ?_ NB344_352.out _; exact uB <| BK344.out))⟩; have n2_ : Aside0 (w33.heap[gb346]? = some (.cells #[.int .i64 ((rd_T59 l0_0 x8_1).f0), .string ((rd_T59 l0_0 x8_1).f1), .slice A345_2 ((rd_T59 l0_0 x8_1).f2).length c345_2] 59 (0, 0))) := ⟨(by rw [hw]; exact (by (with_reducible repeat (first | refine blk_drewN ?_ _ | refine blk_drew ?_ | refine blk_alloc ?_ _)); refine blk_far ?_ NB346_352.out _; (with_reducible repeat (first | refine blk_drewN ?_ _ | refine blk_drew ?_ | refine blk_alloc ?_ _)); refine blk_far ?_ NB346_352.out _; (with_reducible repeat (first | refine blk_drewN ?_ _ | refine blk_drew ?_ | refine blk_alloc ?_ _)); refine blk_far ?_ NB346_352.out _; (with_reducible repeat (first | refine blk_drewN ?_ _ | refine blk_drew ?_ | refine blk_alloc ?_ _)); refine blk_far ?_ NB346_352.out _; (with_reducible repeat (first | refine blk_drewN ?_ _ | refine blk_drew ?_ | refine blk_alloc ?_ _)); refine blk_far ?_ NB346_352.out _; exact uB <| BK346.out))⟩; have n3_ : Aside0 (w33.heap[gb352]? = some (.cells #[.int .i64 t347, .int .i64 t348, .bool t349, .int .i64 t350, .int .i64 t351] 52 (0, 0))) := ⟨(by rw [hw]; exact (by (with_reducible repeat (first | refine blk_drewN ?_ _ | refine blk_drew ?_ | refine blk_alloc ?_ _)); refine blk_put (cs := #[.int .i64 t347, .int .i64 t348, .bool t349, .int .i64 t350, .int .i64 0]) ?_ 4 _ rfl; (with_reducible repeat (first | refine blk_drewN ?_ _ | refine blk_drew ?_ | refine blk_alloc ?_ _)); refine blk_put (cs := #[.int .i64 t347, .int .i64 t348, .bool t349, .int .i64 0, .int .i64 0]) ?_ 3 _ rfl; (with_reducible repeat (first | refine blk_drewN ?_ _ | refine blk_drew ?_ | refine blk_alloc ?_ _)); refine blk_put (cs := #[.int .i64 t347, .int .i64 t348, .bool false, .int .i64 0, .int .i64 0]) ?_ 2 _ rfl; (with_reducible repeat (first | refine blk_drewN ?_ _ | refine blk_drew ?_ | refine blk_alloc ?_ _)); refine blk_put (cs := #[.int .i64 t347, .int .i64 0, .bool false, .int .i64 0, .int .i64 0]) ?_ 1 _ rfl; (with_reducible repeat (first | refine blk_drewN ?_ _ | refine blk_drew ?_ | refine blk_alloc ?_ _)); refine blk_put (cs := #[.int .i64 0, .int .i64 0, .bool false, .int .i64 0, .int .i64 0]) ?_ 0 _ rfl; exact uB <| BK352.out))⟩; have n4_ : Aside0 (Below w.heap.size w w33) := ⟨(by rw [hw]; exact bl)⟩; clear hw; clear HO_7; clear BK344; clear BK346; clear BK352; clear HB; have HO_7 := n0_; have BK344 := n1_; have BK346 := n2_; have BK352 := n3_; have HB := n4_; clear n0_ n1_ n2_ n3_ n4_; obtain ⟨hcz34_0, hcz34_1, hcz34_2, hcz34_3, hcz34_4, hfz34_0, hfz34_1, hfz34_2, hfz34_3, hfz34_4⟩ := z5 BK352; obtain ⟨hcz35_0, hcz35_1, hcz35_2, hfz35_0, hfz35_1, hfz35_2⟩ := z3 BK346) | (go_at_call 39; (with_reducible refine (r11_Dropped.calls k1 _ _ l2 ((rd_T59 l0_0 x8_1).f0) a1 false _ ?side1 ?side2 A9.out).mono ?_); (case side1 => exact uC <| (Kd.C_below HR2.out HB.out)); (case side2 => exact HC2.out); rintro e w' ⟨rfl, ⟨nd, rfl⟩⟩) | ((with_reducible refine gate_builtin (b := .append) (xs := #[.tmp 38, .tmp 45]) rfl ?_); at_builtin; refine Kd.R_append k54 (w0 := w) w.heap.size rfl (.tmp 38) (.tmp 45) 36 54 (.agg #[(.int .i64 0), (.string ⟨#[]⟩), (.int .i64 0), (.int .i64 0), (.bool false), (.int .i64 0), (.int .i64 0)]) 64 rfl Try.underlying36 info54 rfl (by decide) (by omega) u7 x7_1 (⟨(rd_T59 l0_0 x8_1).f0, (rd_T59 l0_0 x8_1).f1, (⟨t347, (⟨t348, t349⟩ : S50), t350, t351⟩ : S52)⟩ : S54) [.int .i64 ((rd_T59 l0_0 x8_1).f0), .string ((rd_T59 l0_0 x8_1).f1), .int .i64 t347, .int .i64 t348, .bool t349, .int .i64 t350, .int .i64 t351] (fun _ => True) (fun _ => False) rfl rfl ?aP (fun _ hk => hk.elim) ?aF ?aO ?aB ?aS ?aL ?_; (case aP => exact k54_mkM _ _ _ (⟨(rd_T59 l0_0 x8_1).f0, (rd_T59 l0_0 x8_1).f1, (⟨t347, (⟨t348, t349⟩ : S50), t350, t351⟩ : S52)⟩ : S54)); (case aB => exact bl); (case aF => exact (fun _ _ => trivial)); (case aO => exact (uR HO_7.out)); (case aS => exact (below_size bl)); (case aL => have := LMc23.out; omega); intro v355 w36 ho hb hg hat; rw [← Ny354.out] at ho; replace BK344 := Aside0.mk (blk_grown (g := gb344) (o := .cells #[.slice (some ad345) l0_0.length c0_0] 24 (0, 0)) (uB BK344.out) hg (Kd.R_ne HO_7.out BK344.out (by decide))); replace BK346 := Aside0.mk (blk_grown (g := gb346) (o := .cells #[.int .i64 ((rd_T59 l0_0 x8_1).f0), .string ((rd_T59 l0_0 x8_1).f1), .slice A345_2 ((rd_T59 l0_0 x8_1).f2).length c345_2] 59 (0, 0)) (uB BK346.out) hg (Kd.R_ne HO_7.out BK346.out (by decide))); replace BK352 := Aside0.mk (blk_grown (g := gb352) (o := .cells #[.int .i64 t347, .int .i64 t348, .bool t349, .int .i64 t350, .int .i64 t351] 52 (0, 0)) (uB BK352.out) hg (Kd.R_ne HO_7.out BK352.out (by decide))); replace HB := Aside0.mk (hb); have HO356 := Aside0.mk (ho); clear HO_7; clear ho hb hg hat))
      go_roundg k1
      case measure => have := HK1.out; omega
      case rel => exact ⟨(y354), (wrap64 (x8_1 + 1)), rs_, H', ⟨by have := HK1.out; omega⟩, ⟨uR HO356.out⟩, ⟨uB BK344.out⟩, ⟨bl⟩⟩
    ·
     rw [if_neg c8] at H
     have c8b0 : decide (1 ≤ t347) = false := decide_eq_false c8
     clear c8
     have H' := Aside0.mk H
     clear H
     obtain ⟨hcz37_0, hfz37_0⟩ := z1 BK344
     have p345 : 0 ≤ (x8_1 : Int) := od
     have q345 : x8_1 < (l0_0.length : Int) := od
     obtain ⟨ad345, A345_2, c345_2, e345, hx345_0, hx345_1, hx345_2, hl345_2, hi345_2⟩ := at_T59 HR0_0.out x8_1 p345 q345
     cases e345
     replace hx345_0 := kc HB hx345_0
     replace hx345_1 := kc HB hx345_1
     replace hx345_2 := kc HB hx345_2
     have HR345_2 := Aside0.mk hi345_2
     have HC345_2 := Aside0.mk hl345_2
     clear hi345_2 hl345_2
     replace p345 := eq_true p345
     replace q345 := eq_true q345
     go_wp2_with (first | ((with_reducible refine gate_dst (N := 9) rfl ?_); refine bx (N := 9) #[.int .i64 0, .string (⟨#[]⟩ : ByteArray), .slice none 0 0] 59 ?_; intro gb346 hg w38 hbox hb; replace HO_7 := cR HO_7 hb; have BK346 := Aside0.mk (hbox); have GW346 := gw hg bl; have GE346 := GW346; replace HB := Aside0.mk (below_step bl hb); have NB344_346 := Aside0.mk ((by rw [hg]; exact Nat.ne_of_lt (blk_lt (g := gb344) (o := .cells #[.slice (some ad345) l0_0.length c0_0] 24 (0, 0)) (uB BK344.out)) : gb344 ≠ gb346)); have NB346_344 := Aside0.mk ((by rw [hg]; exact Nat.ne_of_gt (blk_lt (g := gb344) (o := .cells #[.slice (some ad345) l0_0.length c0_0] 24 (0, 0)) (uB BK344.out)) : gb346 ≠ gb344)); replace BK344 := cB BK344 hb; clear hb hbox hg; have hnb39 := NB346_344.out; have hnc39 := NB344_346.out; obtain ⟨hcz40_0, hcz40_1, hcz40_2, hfz40_0, hfz40_1, hfz40_2⟩ := z3 BK346) | (refine gL (some 26) rfl Try.func38 #[.slice A345_2 ((rd_T59 l0_0 x8_1).f2).length c345_2, .int .i64 a1] ?_; (with_reducible refine (r10_At.calls k1 _ _ ((rd_T59 l0_0 x8_1).f2) a1 t347 t348 t349 t350 t351 _ ?side1 ?side2 A7.out).mono ?_); (case side1 => exact Kd.C_below HR345_2.out bl); (case side2 => exact HC345_2.out); rintro e w41 ⟨rfl, hb⟩; refine ⟨_, rfl, ?_⟩; replace HO_7 := Aside0.mk (Kd.R_below (by exact uR <| (Kd.R_mono (Kd.R_far (p := ⟨gb346, 2, none⟩) (Kd.R_far (p := ⟨gb346, 1, none⟩) (Kd.R_far (p := ⟨gb346, 0, none⟩) (Kd.R_types HO_7.out BK346.out (by decide)) (fun _ hk => hk.2) (.int .i64 ((rd_T59 l0_0 x8_1).f0))) (fun _ hk => hk.2) (.string ((rd_T59 l0_0 x8_1).f1))) (fun _ hk => hk.2) (.slice A345_2 ((rd_T59 l0_0 x8_1).f2).length c345_2)) (fun _ h_ => h_.1))) hb); replace BK344 := Aside0.mk (blk_below (g := gb344) (o := .cells #[.slice (some ad345) l0_0.length c0_0] 24 (0, 0)) (by (with_reducible repeat (first | refine blk_drewN ?_ _ | refine blk_drew ?_ | refine blk_alloc ?_ _)); refine blk_far ?_ NB344_346.out _; (with_reducible repeat (first | refine blk_drewN ?_ _ | refine blk_drew ?_ | refine blk_alloc ?_ _)); refine blk_far ?_ NB344_346.out _; (with_reducible repeat (first | refine blk_drewN ?_ _ | refine blk_drew ?_ | refine blk_alloc ?_ _)); refine blk_far ?_ NB344_346.out _; exact uB <| BK344.out) hb); replace BK346 := Aside0.mk (blk_below (g := gb346) (o := .cells #[.int .i64 ((rd_T59 l0_0 x8_1).f0), .string ((rd_T59 l0_0 x8_1).f1), .slice A345_2 ((rd_T59 l0_0 x8_1).f2).length c345_2] 59 (0, 0)) (by (with_reducible repeat (first | refine blk_drewN ?_ _ | refine blk_drew ?_ | refine blk_alloc ?_ _)); refine blk_put (cs := #[.int .i64 ((rd_T59 l0_0 x8_1).f0), .string ((rd_T59 l0_0 x8_1).f1), .slice none 0 0]) ?_ 2 _ rfl; (with_reducible repeat (first | refine blk_drewN ?_ _ | refine blk_drew ?_ | refine blk_alloc ?_ _)); refine blk_put (cs := #[.int .i64 ((rd_T59 l0_0 x8_1).f0), .string (⟨#[]⟩ : ByteArray), .slice none 0 0]) ?_ 1 _ rfl; (with_reducible repeat (first | refine blk_drewN ?_ _ | refine blk_drew ?_ | refine blk_alloc ?_ _)); refine blk_put (cs := #[.int .i64 0, .string (⟨#[]⟩ : ByteArray), .slice none 0 0]) ?_ 0 _ rfl; exact uB <| BK346.out) hb); replace HB := Aside0.mk (below_step bl hb); (try clear hb)) | ((with_reducible refine gate_dst (N := 10) rfl ?_); refine bx (N := 10) #[.int .i64 0, .int .i64 0, .bool false, .int .i64 0, .int .i64 0] 52 ?_; intro gb352 hg w42 hbox hb; replace HO_7 := cR HO_7 hb; have BK352 := Aside0.mk (hbox); have GW352 := gw hg bl; have GE352 := GW352; replace HB := Aside0.mk (below_step bl hb); have NB344_352 := Aside0.mk ((by rw [hg]; exact Nat.ne_of_lt (blk_lt (g := gb344) (o := .cells #[.slice (some ad345) l0_0.length c0_0] 24 (0, 0)) (uB BK344.out)) : gb344 ≠ gb352)); have NB352_344 := Aside0.mk ((by rw [hg]; exact Nat.ne_of_gt (blk_lt (g := gb344) (o := .cells #[.slice (some ad345) l0_0.length c0_0] 24 (0, 0)) (uB BK344.out)) : gb352 ≠ gb344)); replace BK344 := cB BK344 hb; have NB346_352 := Aside0.mk ((by rw [hg]; exact Nat.ne_of_lt (blk_lt (g := gb346) (o := .cells #[.int .i64 ((rd_T59 l0_0 x8_1).f0), .string ((rd_T59 l0_0 x8_1).f1), .slice A345_2 ((rd_T59 l0_0 x8_1).f2).length c345_2] 59 (0, 0)) (uB BK346.out)) : gb346 ≠ gb352)); have NB352_346 := Aside0.mk ((by rw [hg]; exact Nat.ne_of_gt (blk_lt (g := gb346) (o := .cells #[.int .i64 ((rd_T59 l0_0 x8_1).f0), .string ((rd_T59 l0_0 x8_1).f1), .slice A345_2 ((rd_T59 l0_0 x8_1).f2).length c345_2] 59 (0, 0)) (uB BK346.out)) : gb352 ≠ gb346)); replace BK346 := cB BK346 hb; clear hb hbox hg; have hnb43 := NB352_344.out; have hnc43 := NB344_352.out; have hnb44 := NB352_346.out; have hnc44 := NB346_352.out; obtain ⟨hcz45_0, hcz45_1, hcz45_2, hcz45_3, hcz45_4, hfz45_0, hfz45_1, hfz45_2, hfz45_3, hfz45_4⟩ := z5 BK352) | ((with_reducible refine gate_store (t := 52) (p := 10) rfl ?_); refine store_event (t := 52) (p := 10) (v := ?vo_w46) (w1 := (((((w42.setCell ⟨gb352, 0, none⟩ (.int .i64 t347)).setCell ⟨gb352, 1, none⟩ (.int .i64 t348)).setCell ⟨gb352, 2, none⟩ (.bool t349)).setCell ⟨gb352, 3, none⟩ (.int .i64 t350)).setCell ⟨gb352, 4, none⟩ (.int .i64 t351))) ?hg ?ho ?hn ?hr ?_; (case ho => rfl); (case hg => rfl); (case hn => rfl); (case hr => first | (go_simp; done) | (go_simp; rfl)); intro w46 hw; have n0_ : Aside0 (Kd.R k54 54 w46 w.heap.size (fun _ => True) u7 x7_1) := ⟨(by rw [hw]; exact (by exact uR <| Kd.R_mono (Kd.R_far (p := ⟨gb352, 4, none⟩) (Kd.R_far (p := ⟨gb352, 3, none⟩) (Kd.R_far (p := ⟨gb352, 2, none⟩) (Kd.R_far (p := ⟨gb352, 1, none⟩) (Kd.R_far (p := ⟨gb352, 0, none⟩) (Kd.R_types HO_7.out BK352.out (by decide)) (fun _ hk => hk.2) (.int .i64 t347)) (fun _ hk => hk.2) (.int .i64 t348)) (fun _ hk => hk.2) (.bool t349)) (fun _ hk => hk.2) (.int .i64 t350)) (fun _ hk => hk.2) (.int .i64 t351)) (fun _ hk => trivial)))⟩; have n1_ : Aside0 (w46.heap[gb344]? = some (.cells #[.slice (some ad345) l0_0.length c0_0] 24 (0, 0))) := ⟨(by rw [hw]; exact (by (with_reducible repeat (first | refine blk_drewN ?_ _ | refine blk_drew ?_ | refine blk_alloc ?_ _)); refine blk_far ?_ NB344_352.out _; (with_reducible repeat (first | refine blk_drewN ?_ _ | refine blk_drew ?_ | refine blk_alloc ?_ _)); refine blk_far ?_ NB344_352.out _; (with_reducible repeat (first | refine blk_drewN ?_ _ | refine blk_drew ?_ | refine blk_alloc ?_ _)); refine blk_far ?_ NB344_352.out _; (with_reducible repeat (first | refine blk_drewN ?_ _ | refine blk_drew ?_ | refine blk_alloc ?_ _)); refine blk_far ?_ NB344_352.out _; (with_reducible repeat (first | refine blk_drewN ?_ _ | refine blk_drew ?_ | refine blk_alloc ?_ _)); refine blk_far ?_ NB344_352.out _; exact uB <| BK344.out))⟩; have n2_ : Aside0 (w46.heap[gb346]? = some (.cells #[.int .i64 ((rd_T59 l0_0 x8_1).f0), .string ((rd_T59 l0_0 x8_1).f1), .slice A345_2 ((rd_T59 l0_0 x8_1).f2).length c345_2] 59 (0, 0))) := ⟨(by rw [hw]; exact (by (with_reducible repeat (first | refine blk_drewN ?_ _ | refine blk_drew ?_ | refine blk_alloc ?_ _)); refine blk_far ?_ NB346_352.out _; (with_reducible repeat (first | refine blk_drewN ?_ _ | refine blk_drew ?_ | refine blk_alloc ?_ _)); refine blk_far ?_ NB346_352.out _; (with_reducible repeat (first | refine blk_drewN ?_ _ | refine blk_drew ?_ | refine blk_alloc ?_ _)); refine blk_far ?_ NB346_352.out _; (with_reducible repeat (first | refine blk_drewN ?_ _ | refine blk_drew ?_ | refine blk_alloc ?_ _)); refine blk_far ?_ NB346_352.out _; (with_reducible repeat (first | refine blk_drewN ?_ _ | refine blk_drew ?_ | refine blk_alloc ?_ _)); refine blk_far ?_ NB346_352.out _; exact uB <| BK346.out))⟩; have n3_ : Aside0 (w46.heap[gb352]? = some (.cells #[.int .i64 t347, .int .i64 t348, .bool t349, .int .i64 t350, .int .i64 t351] 52 (0, 0))) := ⟨(by rw [hw]; exact (by (with_reducible repeat (first | refine blk_drewN ?_ _ | refine blk_drew ?_ | refine blk_alloc ?_ _)); refine blk_put (cs := #[.int .i64 t347, .int .i64 t348, .bool t349, .int .i64 t350, .int .i64 0]) ?_ 4 _ rfl; (with_reducible repeat (first | refine blk_drewN ?_ _ | refine blk_drew ?_ | refine blk_alloc ?_ _)); refine blk_put (cs := #[.int .i64 t347, .int .i64 t348, .bool t349, .int .i64 0, .int .i64 0]) ?_ 3 _ rfl; (with_reducible repeat (first | refine blk_drewN ?_ _ | refine blk_drew ?_ | refine blk_alloc ?_ _)); refine blk_put (cs := #[.int .i64 t347, .int .i64 t348, .bool false, .int .i64 0, .int .i64 0]) ?_ 2 _ rfl; (with_reducible repeat (first | refine blk_drewN ?_ _ | refine blk_drew ?_ | refine blk_alloc ?_ _)); refine blk_put (cs := #[.int .i64 t347, .int .i64 0, .bool false, .int .i64 0, .int .i64 0]) ?_ 1 _ rfl; (with_reducible repeat (first | refine blk_drewN ?_ _ | refine blk_drew ?_ | refine blk_alloc ?_ _)); refine blk_put (cs := #[.int .i64 0, .int .i64 0, .bool false, .int .i64 0, .int .i64 0]) ?_ 0 _ rfl; exact uB <| BK352.out))⟩; have n4_ : Aside0 (Below w.heap.size w w46) := ⟨(by rw [hw]; exact bl)⟩; clear hw; clear HO_7; clear BK344; clear BK346; clear BK352; clear HB; have HO_7 := n0_; have BK344 := n1_; have BK346 := n2_; have BK352 := n3_; have HB := n4_; clear n0_ n1_ n2_ n3_ n4_; obtain ⟨hcz47_0, hcz47_1, hcz47_2, hcz47_3, hcz47_4, hfz47_0, hfz47_1, hfz47_2, hfz47_3, hfz47_4⟩ := z5 BK352))
     go_roundg k1
     case measure => have := HK1.out; omega
     case rel => exact ⟨(x7_1), (wrap64 (x8_1 + 1)), rs_, H', ⟨by have := HK1.out; omega⟩, ⟨uR HO_7.out⟩, ⟨uB BK344.out⟩, ⟨bl⟩⟩
   ·
    rw [if_neg c5] at H
    have c5b0 : decide (x8_1 < (l0_0.length : Int)) = false := decide_eq_false c5
    clear c5
    obtain rfl := Option.some.inj H
    obtain ⟨hcz48_0, hfz48_0⟩ := z1 BK344
    go_wp2
    go_ret
    exact ⟨_, re_, uR HO_7.out, bl⟩
def r11_Size.l0 : Nat → Int → Int → List (S59) → Option (Int)
 | 0, _, _, _ => none
 | k + 1, x3, x4, x358000 => if x4 < (x358000.length : Int) then (if 0 ≤ x4 then (r11_Size.l0 k (wrap64 (x3 + (((rd_T59 x358000 x4).f2).length : Int))) (wrap64 (x4 + 1)) x358000) else (none)) else (some x3)
def r11_Size.f (k : Nat) (l0_0 : List (S59)) : Option (Int) := r11_Size.l0 k 0 0 l0_0
theorem r11_Size.mono_l : ∀ k, (∀ y0 y1 y2, LeC (r11_Size.l0 k y0 y1 y2) (r11_Size.l0 (k + 1) y0 y1 y2))
 | 0 => fun _ _ _ => ⟨fun r h => by simp [r11_Size.l0] at h⟩
 | k + 1 => by have ih0 := r11_Size.mono_l k; exact fun _ _ _ => by unfold r11_Size.l0; exact lm
theorem r11_Size.mono : ∀ a0 k, LeO (r11_Size.f k a0) (r11_Size.f (k + 1) a0) := by
 intro a0 k
 have ih0 := r11_Size.mono_l k
 unfold r11_Size.f
 exact lo
instance r11_Size.mI {a0 k} : LeC (r11_Size.f k a0) (r11_Size.f (k + 1) a0) := ⟨r11_Size.mono _ _⟩
theorem r11_Size.calls (k : Nat) (A0_0 : Option Addr) (c0_0 : Nat) (l0_0 : List (S59)) (r : Int) (w : World) (hr0_0 : Kd.C k59 w A0_0 l0_0.length l0_0) (hc0_0 : l0_0.length ≤ c0_0) (h : r11_Size.f k l0_0 = some r) :
 Calls Try.prog 20 #[.agg #[.slice A0_0 l0_0.length c0_0]] w fun e w' => e = .returned (.int .i64 r) ∧ Below w.heap.size w w' := by
 have hu24 := Try.underlying24
 have HR0_0 := Aside0.mk hr0_0
 have HC0_0 := Aside0.mk hc0_0
 clear hr0_0 hc0_0
 have HB := Aside0.mk (Below.refl w.heap.size w)
 have H : (r11_Size.l0 k 0 0 l0_0) = some r := h
 clear h
 have H' := Aside0.mk H
 clear H
 go_enter Try.func20, Try.ntmps20
 go_wp2_with (first | ((with_reducible refine gate_dst (N := 1) rfl ?_); refine bx (N := 1) #[.slice A0_0 l0_0.length c0_0] 24 ?_; intro gb357 hg w2 hbox hb; have BK357 := Aside0.mk (hbox); have GW357 := gw hg (uW HB.out); have GE357 := GW357; replace HB := cW HB hb; clear hb hbox hg))
 go_loopg [3, 4] k (fun kq v3 v4 w' => ∃ (x3_1 : Int) (x4_1 : Int), v3 = .int .i64 x3_1 ∧ v4 = .int .i64 x4_1 ∧ Aside0 (r11_Size.l0 kq x3_1 x4_1 l0_0 = some r) ∧ Aside0 (kq ≤ k) ∧ Aside0 (w'.heap[gb357]? = some (.cells #[(.slice A0_0 l0_0.length c0_0)] 24 (0, 0))) ∧ Aside0 (Below w.heap.size w w'))
 case atStart => exact ⟨(0), (0), rs_, rs_, H', ⟨Nat.le_refl _⟩, ⟨uB BK357.out⟩, ⟨bl⟩⟩
 case round =>
  clear H'
  try clear c2
  try clear p2
  obtain ⟨x3_1, x4_1, rfl, rfl, HA, HK1, BK357, HB⟩ := hrel
  cases gk with
  | zero => exact absurd HA.out (by simp [r11_Size.l0])
  | succ k1 =>
   have H := HA.out
   clear HA
   simp only [r11_Size.l0] at H
   by_cases c3 : x4_1 < (l0_0.length : Int)
   ·
    rw [if_pos c3] at H
    have c3b0 : decide (x4_1 < (l0_0.length : Int)) = true := decide_eq_true c3
    clear c3
    obtain ⟨c4b0, H⟩ := gdd H
    have H' := Aside0.mk H
    clear H
    obtain ⟨hcz5_0, hfz5_0⟩ := z1 BK357
    have p358 : 0 ≤ (x4_1 : Int) := od
    have q358 : x4_1 < (l0_0.length : Int) := od
    obtain ⟨ad358, A358_2, c358_2, e358, hx358_0, hx358_1, hx358_2, hl358_2, hi358_2⟩ := at_T59 HR0_0.out x4_1 p358 q358
    cases e358
    replace hx358_0 := kc HB hx358_0
    replace hx358_1 := kc HB hx358_1
    replace hx358_2 := kc HB hx358_2
    have HR358_2 := Aside0.mk hi358_2
    have HC358_2 := Aside0.mk hl358_2
    clear hi358_2 hl358_2
    replace p358 := eq_true p358
    replace q358 := eq_true q358
    go_wp2
    go_roundg k1
    case measure => have := HK1.out; omega
    case rel => exact ⟨(wrap64 (x3_1 + (((rd_T59 l0_0 x4_1).f2).length : Int))), (wrap64 (x4_1 + 1)), rs_, rs_, H', ⟨by have := HK1.out; omega⟩, ⟨uB BK357.out⟩, ⟨bl⟩⟩
   ·
    rw [if_neg c3] at H
    have c3b0 : decide (x4_1 < (l0_0.length : Int)) = false := decide_eq_false c3
    clear c3
    obtain rfl := Option.some.inj H
    obtain ⟨hcz6_0, hfz6_0⟩ := z1 BK357
    go_wp2
    go_ret
    exact ⟨re_, bl⟩
end Go.Proofs.Ytofaindjbhmopaa.X
