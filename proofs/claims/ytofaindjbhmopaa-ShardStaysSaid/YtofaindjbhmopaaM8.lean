/- Printed by a program of this session's own: what functions of the program compute, and that the machine computes it. No condition of its own. -/
import Derived.Test.YtofaindjbhmopaaM3
import Derived.Test.YtofaindjbhmopaaM5
namespace Go.Proofs.Ytofaindjbhmopaa.X
open Go.RowKit Go.Proofs.YtofaindjbhmopaaW.PrintWords Go.Proofs.YtofaindjbhmopaaW.PrintLast Go.Proofs.YtofaindjbhmopaaW.PrintMore
attribute [local go_sem] max2_int min2_int max_two min_two max_three min_three max_four min_four
set_option linter.unusedVariables false
set_option linter.unusedSimpArgs false
set_option maxHeartbeats 8000000
set_option maxRecDepth 100000
attribute [local go_sem high] eqA82
def r11_Great.l0 : Nat → Int → List (S59) → Option (Bool)
 | 0, _, _ => none
 | k + 1, x3, x334000 => if x3 < (x334000.length : Int) then (if 0 ≤ x3 then (if (((rd_T59 x334000 x3).f2).length : Int) > 100 then (some true) else (if (((rd_T59 x334000 x3).f1).size : Int) > 300 then (some true) else (r11_Great.l0 k (wrap64 (x3 + 1)) x334000))) else (none)) else (some false)
def r11_Great.f (k : Nat) (l0_0 : List (S59)) : Option (Bool) := if (l0_0.length : Int) > 100 then (some true) else (r11_Great.l0 k 0 l0_0)
theorem r11_Great.mono_l : ∀ k, (∀ y0 y1, LeC (r11_Great.l0 k y0 y1) (r11_Great.l0 (k + 1) y0 y1))
 | 0 => fun _ _ => ⟨fun r h => by simp [r11_Great.l0] at h⟩
 | k + 1 => by have ih0 := r11_Great.mono_l k; exact fun _ _ => by unfold r11_Great.l0; exact lm
theorem r11_Great.mono : ∀ a0 k, LeO (r11_Great.f k a0) (r11_Great.f (k + 1) a0) := by
 intro a0 k
 have ih0 := r11_Great.mono_l k
 unfold r11_Great.f
 exact lo
instance r11_Great.mI {a0 k} : LeC (r11_Great.f k a0) (r11_Great.f (k + 1) a0) := ⟨r11_Great.mono _ _⟩
theorem r11_Great.calls (k : Nat) (A0_0 : Option Addr) (c0_0 : Nat) (l0_0 : List (S59)) (r : Bool) (w : World) (hr0_0 : Kd.C k59 w A0_0 l0_0.length l0_0) (hc0_0 : l0_0.length ≤ c0_0) (h : r11_Great.f k l0_0 = some r) :
 Calls Try.prog 9 #[.agg #[.slice A0_0 l0_0.length c0_0]] w fun e w' => e = .returned (.bool r) ∧ Below w.heap.size w w' := by
 have hu24 := Try.underlying24
 have HR0_0 := Aside0.mk hr0_0
 have HC0_0 := Aside0.mk hc0_0
 clear hr0_0 hc0_0
 have HB := Aside0.mk (Below.refl w.heap.size w)
 have H : (if (l0_0.length : Int) > 100 then (some true) else (r11_Great.l0 k 0 l0_0)) = some r := h
 clear h
 by_cases c2 : (l0_0.length : Int) > 100
 ·
  rw [if_pos c2] at H
  have c2b0 : decide (100 < (l0_0.length : Int)) = true := decide_eq_true c2
  have c2b1 : decide (100 < l0_0.length) = true := decide_eq_true (by omega)
  clear c2
  obtain rfl := Option.some.inj H
  go_enter Try.func9, Try.ntmps9
  go_wp2_with (first | ((with_reducible refine gate_dst (N := 1) rfl ?_); (try (refine gate_guard (by rfl) ?_; dsimp only)); refine bx (N := 1) #[.slice A0_0 l0_0.length c0_0] 24 ?_; intro gb333 hg w3 hbox hb; have BK333 := Aside0.mk (hbox); have GW333 := gw hg (uW HB.out); have GE333 := GW333; replace HB := cW HB hb; clear hb hbox hg; obtain ⟨hcz4_0, hfz4_0⟩ := z1 BK333))
  go_ret
  exact ⟨re_, bl⟩
 ·
  rw [if_neg c2] at H
  have c2b0 : decide (100 < (l0_0.length : Int)) = false := decide_eq_false c2
  have c2b1 : decide (100 < l0_0.length) = false := decide_eq_false (by omega)
  clear c2
  have H' := Aside0.mk H
  clear H
  go_enter Try.func9, Try.ntmps9
  go_wp2_with (first | ((with_reducible refine gate_dst (N := 1) rfl ?_); (try (refine gate_guard (by rfl) ?_; dsimp only)); refine bx (N := 1) #[.slice A0_0 l0_0.length c0_0] 24 ?_; intro gb333 hg w5 hbox hb; have BK333 := Aside0.mk (hbox); have GW333 := gw hg (uW HB.out); have GE333 := GW333; replace HB := cW HB hb; clear hb hbox hg; obtain ⟨hcz6_0, hfz6_0⟩ := z1 BK333))
  go_loopg [3] k (fun kq v3 w' => ∃ (x3_1 : Int), v3 = .int .i64 x3_1 ∧ Aside0 (r11_Great.l0 kq x3_1 l0_0 = some r) ∧ Aside0 (kq ≤ k) ∧ Aside0 (w'.heap[gb333]? = some (.cells #[(.slice A0_0 l0_0.length c0_0)] 24 (0, 0))) ∧ Aside0 (Below w.heap.size w w'))
  case atStart => exact ⟨(0), rs_, H', ⟨Nat.le_refl _⟩, ⟨uB BK333.out⟩, ⟨bl⟩⟩
  case round =>
   clear H'
   try clear c2
   try clear c2b0
   try clear c2b1
   try clear p2
   try clear hcz4_0
   try clear hcz6_0
   try clear hfz4_0
   try clear hfz6_0
   obtain ⟨x3_1, rfl, HA, HK1, BK333, HB⟩ := hrel
   cases gk with
   | zero => exact absurd HA.out (by simp [r11_Great.l0])
   | succ k1 =>
    have H := HA.out
    clear HA
    simp only [r11_Great.l0] at H
    by_cases c7 : x3_1 < (l0_0.length : Int)
    ·
     rw [if_pos c7] at H
     have c7b0 : decide (x3_1 < (l0_0.length : Int)) = true := decide_eq_true c7
     clear c7
     obtain ⟨c8b0, H⟩ := gdd H
     by_cases c9 : (((rd_T59 l0_0 x3_1).f2).length : Int) > 100
     ·
      rw [if_pos c9] at H
      have c9b0 : decide (100 < (((rd_T59 l0_0 x3_1).f2).length : Int)) = true := decide_eq_true c9
      have c9b1 : decide (100 < ((rd_T59 l0_0 x3_1).f2).length) = true := decide_eq_true (by omega)
      clear c9
      obtain rfl := Option.some.inj H
      obtain ⟨hcz10_0, hfz10_0⟩ := z1 BK333
      have p334 : 0 ≤ (x3_1 : Int) := od
      have q334 : x3_1 < (l0_0.length : Int) := od
      obtain ⟨ad334, A334_2, c334_2, e334, hx334_0, hx334_1, hx334_2, hl334_2, hi334_2⟩ := at_T59 HR0_0.out x3_1 p334 q334
      cases e334
      replace hx334_0 := kc HB hx334_0
      replace hx334_1 := kc HB hx334_1
      replace hx334_2 := kc HB hx334_2
      have HR334_2 := Aside0.mk hi334_2
      have HC334_2 := Aside0.mk hl334_2
      clear hi334_2 hl334_2
      replace p334 := eq_true p334
      replace q334 := eq_true q334
      go_wp2
      go_ret
      exact ⟨re_, bl⟩
     ·
      rw [if_neg c9] at H
      have c9b0 : decide (100 < (((rd_T59 l0_0 x3_1).f2).length : Int)) = false := decide_eq_false c9
      have c9b1 : decide (100 < ((rd_T59 l0_0 x3_1).f2).length) = false := decide_eq_false (by omega)
      clear c9
      by_cases c11 : (((rd_T59 l0_0 x3_1).f1).size : Int) > 300
      ·
       rw [if_pos c11] at H
       have c11b0 : decide (300 < (((rd_T59 l0_0 x3_1).f1).size : Int)) = true := decide_eq_true c11
       have c11b1 : decide (300 < ((rd_T59 l0_0 x3_1).f1).size) = true := decide_eq_true (by omega)
       clear c11
       obtain rfl := Option.some.inj H
       obtain ⟨hcz12_0, hfz12_0⟩ := z1 BK333
       have p334 : 0 ≤ (x3_1 : Int) := od
       have q334 : x3_1 < (l0_0.length : Int) := od
       obtain ⟨ad334, A334_2, c334_2, e334, hx334_0, hx334_1, hx334_2, hl334_2, hi334_2⟩ := at_T59 HR0_0.out x3_1 p334 q334
       cases e334
       replace hx334_0 := kc HB hx334_0
       replace hx334_1 := kc HB hx334_1
       replace hx334_2 := kc HB hx334_2
       have HR334_2 := Aside0.mk hi334_2
       have HC334_2 := Aside0.mk hl334_2
       clear hi334_2 hl334_2
       replace p334 := eq_true p334
       replace q334 := eq_true q334
       have p335 : 0 ≤ (x3_1 : Int) := od
       have q335 : x3_1 < (l0_0.length : Int) := od
       obtain ⟨ad335, A335_2, c335_2, e335, hx335_0, hx335_1, hx335_2, hl335_2, hi335_2⟩ := at_T59 HR0_0.out x3_1 p335 q335
       obtain rfl : ad334 = ad335 := (by injection e335)
       replace hx335_0 := kc HB hx335_0
       replace hx335_1 := kc HB hx335_1
       replace hx335_2 := kc HB hx335_2
       have HR335_2 := Aside0.mk hi335_2
       have HC335_2 := Aside0.mk hl335_2
       clear hi335_2 hl335_2
       replace p335 := eq_true p335
       replace q335 := eq_true q335
       have ea_ := Option.some.inj (hx334_2.symm.trans hx335_2)
       injection ea_ with ea_ en_ ec_
       subst ea_
       subst ec_
       clear en_
       go_wp2
       go_ret
       exact ⟨re_, bl⟩
      ·
       rw [if_neg c11] at H
       have c11b0 : decide (300 < (((rd_T59 l0_0 x3_1).f1).size : Int)) = false := decide_eq_false c11
       have c11b1 : decide (300 < ((rd_T59 l0_0 x3_1).f1).size) = false := decide_eq_false (by omega)
       clear c11
       have H' := Aside0.mk H
       clear H
       obtain ⟨hcz13_0, hfz13_0⟩ := z1 BK333
       have p334 : 0 ≤ (x3_1 : Int) := od
       have q334 : x3_1 < (l0_0.length : Int) := od
       obtain ⟨ad334, A334_2, c334_2, e334, hx334_0, hx334_1, hx334_2, hl334_2, hi334_2⟩ := at_T59 HR0_0.out x3_1 p334 q334
       cases e334
       replace hx334_0 := kc HB hx334_0
       replace hx334_1 := kc HB hx334_1
       replace hx334_2 := kc HB hx334_2
       have HR334_2 := Aside0.mk hi334_2
       have HC334_2 := Aside0.mk hl334_2
       clear hi334_2 hl334_2
       replace p334 := eq_true p334
       replace q334 := eq_true q334
       have p335 : 0 ≤ (x3_1 : Int) := od
       have q335 : x3_1 < (l0_0.length : Int) := od
       obtain ⟨ad335, A335_2, c335_2, e335, hx335_0, hx335_1, hx335_2, hl335_2, hi335_2⟩ := at_T59 HR0_0.out x3_1 p335 q335
       obtain rfl : ad334 = ad335 := (by injection e335)
       replace hx335_0 := kc HB hx335_0
       replace hx335_1 := kc HB hx335_1
       replace hx335_2 := kc HB hx335_2
       have HR335_2 := Aside0.mk hi335_2
       have HC335_2 := Aside0.mk hl335_2
       clear hi335_2 hl335_2
       replace p335 := eq_true p335
       replace q335 := eq_true q335
       have ea_ := Option.some.inj (hx334_2.symm.trans hx335_2)
       injection ea_ with ea_ en_ ec_
       subst ea_
       subst ec_
       clear en_
       go_wp2
       go_roundg k1
       case measure => have := HK1.out; omega
       case rel => exact ⟨(wrap64 (x3_1 + 1)), rs_, H', ⟨by have := HK1.out; omega⟩, ⟨uB BK333.out⟩, ⟨bl⟩⟩
    ·
     rw [if_neg c7] at H
     have c7b0 : decide (x3_1 < (l0_0.length : Int)) = false := decide_eq_false c7
     clear c7
     obtain rfl := Option.some.inj H
     obtain ⟨hcz14_0, hfz14_0⟩ := z1 BK333
     go_wp2
     go_ret
     exact ⟨re_, bl⟩
def r10_Same.l0 : Nat → List (S82) → List (S82) → Int → Option (Bool)
 | 0, _, _, _ => none
 | k + 1, x0, x1, x5 => if x5 < (x0.length : Int) then (if 0 ≤ x5 then (if x5 < (x1.length : Int) then (if (!(((rd_T82 x0 x5).f0) == ((rd_T82 x1 x5).f0)) || ((!(((rd_T82 x0 x5).f1.f0) == ((rd_T82 x1 x5).f1.f0)) || ((!(((rd_T82 x0 x5).f1.f1.f0) == ((rd_T82 x1 x5).f1.f1.f0)) || (!(((rd_T82 x0 x5).f1.f1.f1) == ((rd_T82 x1 x5).f1.f1.f1)))) || (!(((rd_T82 x0 x5).f1.f2) == ((rd_T82 x1 x5).f1.f2)) || (!(((rd_T82 x0 x5).f1.f3) == ((rd_T82 x1 x5).f1.f3)))))))) = true then (some false) else (r10_Same.l0 k x0 x1 (wrap64 (x5 + 1)))) else (none)) else (none)) else (some true)
def r10_Same.f (k : Nat) (l0 : List (S82)) (l1 : List (S82)) : Option (Bool) := if (l0.length : Int) = (l1.length : Int) then (r10_Same.l0 k l0 l1 0) else (some false)
theorem r10_Same.mono_l : ∀ k, (∀ y0 y1 y2, LeC (r10_Same.l0 k y0 y1 y2) (r10_Same.l0 (k + 1) y0 y1 y2))
 | 0 => fun _ _ _ => ⟨fun r h => by simp [r10_Same.l0] at h⟩
 | k + 1 => by have ih0 := r10_Same.mono_l k; exact fun _ _ _ => by unfold r10_Same.l0; exact lm
theorem r10_Same.mono : ∀ a0 a1 k, LeO (r10_Same.f k a0 a1) (r10_Same.f (k + 1) a0 a1) := by
 intro a0 a1 k
 have ih0 := r10_Same.mono_l k
 unfold r10_Same.f
 exact lo
instance r10_Same.mI {a0 a1 k} : LeC (r10_Same.f k a0 a1) (r10_Same.f (k + 1) a0 a1) := ⟨r10_Same.mono _ _ _⟩
theorem r10_Same.calls (k : Nat) (A0 : Option Addr) (c0 : Nat) (l0 : List (S82)) (A1 : Option Addr) (c1 : Nat) (l1 : List (S82)) (r : Bool) (w : World) (hr0 : Kd.C k82 w A0 l0.length l0) (hc0 : l0.length ≤ c0) (hr1 : Kd.C k82 w A1 l1.length l1) (hc1 : l1.length ≤ c1) (h : r10_Same.f k l0 l1 = some r) :
 Calls Try.prog 32 #[.slice A0 l0.length c0, .slice A1 l1.length c1] w fun e w' => e = .returned (.bool r) ∧ Drawn0 w w' := by
 have hu82 := Try.underlying82
 have HR0 := Aside0.mk hr0
 have HC0 := Aside0.mk hc0
 clear hr0 hc0
 have HR1 := Aside0.mk hr1
 have HC1 := Aside0.mk hc1
 clear hr1 hc1
 have H : (if (l0.length : Int) = (l1.length : Int) then (r10_Same.l0 k l0 l1 0) else (some false)) = some r := h
 clear h
 by_cases c3 : (l0.length : Int) = (l1.length : Int)
 ·
  rw [if_pos c3] at H
  have c3b0 : ((l0.length : Int) == (l1.length : Int)) = true := beq_iff_eq.mpr c3
  have c3b1 : ((l0.length : Int) != (l1.length : Int)) = false := bne_eq_false_iff_eq.mpr c3
  have c3b2 : (l0.length == l1.length) = true := by first | simpa using c3 | (simp at c3 ⊢; omega)
  clear c3
  have H' := Aside0.mk H
  clear H
  go_enter Try.func32, Try.ntmps32
  go_wp2
  repeat (go_quiet (fail); try go_wp2)
  go_loopg [5] k (fun kq v5 w' => ∃ (x5_1 : Int), v5 = .int .i64 x5_1 ∧ Aside0 (r10_Same.l0 kq l0 l1 x5_1 = some r) ∧ Aside0 (kq ≤ k) ∧ Drawn0 w w')
  case atStart => exact ⟨(0), rs_, H', ⟨Nat.le_refl _⟩, dr_⟩
  case round =>
   clear H'
   try clear c1
   try clear p2
   try clear c3
   try clear c3b0
   try clear c3b1
   try clear c3b2
   obtain ⟨x5_1, rfl, HA, HK1, ⟨m1, rfl⟩⟩ := hrel
   cases gk with
   | zero => exact absurd HA.out (by simp [r10_Same.l0])
   | succ k1 =>
    have H := HA.out
    clear HA
    simp only [r10_Same.l0] at H
    by_cases c4 : x5_1 < (l0.length : Int)
    ·
     rw [if_pos c4] at H
     have c4b0 : decide (x5_1 < (l0.length : Int)) = true := decide_eq_true c4
     clear c4
     obtain ⟨c5b0, H⟩ := gdd H
     obtain ⟨c6b0, H⟩ := gdd H
     by_cases c7 : (!(((rd_T82 l0 x5_1).f0) == ((rd_T82 l1 x5_1).f0)) || ((!(((rd_T82 l0 x5_1).f1.f0) == ((rd_T82 l1 x5_1).f1.f0)) || ((!(((rd_T82 l0 x5_1).f1.f1.f0) == ((rd_T82 l1 x5_1).f1.f1.f0)) || (!(((rd_T82 l0 x5_1).f1.f1.f1) == ((rd_T82 l1 x5_1).f1.f1.f1)))) || (!(((rd_T82 l0 x5_1).f1.f2) == ((rd_T82 l1 x5_1).f1.f2)) || (!(((rd_T82 l0 x5_1).f1.f3) == ((rd_T82 l1 x5_1).f1.f3)))))))) = true
     ·
      rw [if_pos c7] at H
      have c7b0 : (!(((rd_T82 l0 x5_1).f0) == ((rd_T82 l1 x5_1).f0)) || ((!(((rd_T82 l0 x5_1).f1.f0) == ((rd_T82 l1 x5_1).f1.f0)) || ((!(((rd_T82 l0 x5_1).f1.f1.f0) == ((rd_T82 l1 x5_1).f1.f1.f0)) || (!(((rd_T82 l0 x5_1).f1.f1.f1) == ((rd_T82 l1 x5_1).f1.f1.f1)))) || (!(((rd_T82 l0 x5_1).f1.f2) == ((rd_T82 l1 x5_1).f1.f2)) || (!(((rd_T82 l0 x5_1).f1.f3) == ((rd_T82 l1 x5_1).f1.f3)))))))) = true := c7
      clear c7
      obtain rfl := Option.some.inj H
      have p336 : 0 ≤ (x5_1 : Int) := od
      have q336 : x5_1 < (l0.length : Int) := od
      obtain ⟨ad336, e336, hx336_0, hx336_1, hx336_2, hx336_3, hx336_4, hx336_5⟩ := at_T82 HR0.out x5_1 p336 q336
      cases e336
      replace p336 := eq_true p336
      replace q336 := eq_true q336
      have p337 : 0 ≤ (x5_1 : Int) := od
      have q337 : x5_1 < (l1.length : Int) := od
      obtain ⟨ad337, e337, hx337_0, hx337_1, hx337_2, hx337_3, hx337_4, hx337_5⟩ := at_T82 HR1.out x5_1 p337 q337
      cases e337
      replace p337 := eq_true p337
      replace q337 := eq_true q337
      go_wp2
      repeat (go_quiet (fail); try go_wp2)
      go_ret
      exact ⟨rs_, dr_⟩
     ·
      rw [if_neg c7] at H
      have c7b0 : (!(((rd_T82 l0 x5_1).f0) == ((rd_T82 l1 x5_1).f0)) || ((!(((rd_T82 l0 x5_1).f1.f0) == ((rd_T82 l1 x5_1).f1.f0)) || ((!(((rd_T82 l0 x5_1).f1.f1.f0) == ((rd_T82 l1 x5_1).f1.f1.f0)) || (!(((rd_T82 l0 x5_1).f1.f1.f1) == ((rd_T82 l1 x5_1).f1.f1.f1)))) || (!(((rd_T82 l0 x5_1).f1.f2) == ((rd_T82 l1 x5_1).f1.f2)) || (!(((rd_T82 l0 x5_1).f1.f3) == ((rd_T82 l1 x5_1).f1.f3)))))))) = false := by simpa using c7
      clear c7
      have H' := Aside0.mk H
      clear H
      have p336 : 0 ≤ (x5_1 : Int) := od
      have q336 : x5_1 < (l0.length : Int) := od
      obtain ⟨ad336, e336, hx336_0, hx336_1, hx336_2, hx336_3, hx336_4, hx336_5⟩ := at_T82 HR0.out x5_1 p336 q336
      cases e336
      replace p336 := eq_true p336
      replace q336 := eq_true q336
      have p337 : 0 ≤ (x5_1 : Int) := od
      have q337 : x5_1 < (l1.length : Int) := od
      obtain ⟨ad337, e337, hx337_0, hx337_1, hx337_2, hx337_3, hx337_4, hx337_5⟩ := at_T82 HR1.out x5_1 p337 q337
      cases e337
      replace p337 := eq_true p337
      replace q337 := eq_true q337
      go_wp2
      repeat (go_quiet (fail); try go_wp2)
      go_roundg k1
      case measure => have := HK1.out; omega
      case rel => exact ⟨(wrap64 (x5_1 + 1)), rs_, H', ⟨by have := HK1.out; omega⟩, dr_⟩
    ·
     rw [if_neg c4] at H
     have c4b0 : decide (x5_1 < (l0.length : Int)) = false := decide_eq_false c4
     clear c4
     obtain rfl := Option.some.inj H
     go_wp2
     repeat (go_quiet (fail); try go_wp2)
     go_ret
     exact ⟨rs_, dr_⟩
 ·
  rw [if_neg c3] at H
  have c3b0 : ((l0.length : Int) == (l1.length : Int)) = false := beq_eq_false_iff_ne.mpr c3
  have c3b1 : ((l0.length : Int) != (l1.length : Int)) = true := bne_iff_ne.mpr c3
  have c3b2 : (l0.length == l1.length) = false := by first | simpa using c3 | (simp at c3 ⊢; omega)
  obtain rfl := Option.some.inj H
  go_enter Try.func32, Try.ntmps32
  go_wp2
  repeat (go_quiet (fail); try go_wp2)
  go_ret
  exact ⟨rs_, dr_⟩
def r11_Same.l0 : Nat → Int → List (S59) → List (S59) → Option (Bool)
 | 0, _, _, _ => none
 | k + 1, x5, x339000, x340000 => if x5 < (x339000.length : Int) then (if 0 ≤ x5 then (if x5 < (x340000.length : Int) then (if ((rd_T59 x339000 x5).f0) = ((rd_T59 x340000 x5).f0) then (if ((rd_T59 x339000 x5).f1).toList = ((rd_T59 x340000 x5).f1).toList then ((r10_Same.f k ((rd_T59 x339000 x5).f2) ((rd_T59 x340000 x5).f2)).bind fun t344 => (if t344 = true then (r11_Same.l0 k (wrap64 (x5 + 1)) x339000 x340000) else (some false))) else (some false)) else (some false)) else (none)) else (none)) else (some true)
def r11_Same.f (k : Nat) (l0_0 : List (S59)) (l1_0 : List (S59)) : Option (Bool) := if (l0_0.length : Int) = (l1_0.length : Int) then (r11_Same.l0 k 0 l0_0 l1_0) else (some false)
theorem r11_Same.mono_l : ∀ k, (∀ y0 y1 y2, LeC (r11_Same.l0 k y0 y1 y2) (r11_Same.l0 (k + 1) y0 y1 y2))
 | 0 => fun _ _ _ => ⟨fun r h => by simp [r11_Same.l0] at h⟩
 | k + 1 => by have ih0 := r11_Same.mono_l k; exact fun _ _ _ => by unfold r11_Same.l0; exact lm
theorem r11_Same.mono : ∀ a0 a1 k, LeO (r11_Same.f k a0 a1) (r11_Same.f (k + 1) a0 a1) := by
 intro a0 a1 k
 have ih0 := r11_Same.mono_l k
 unfold r11_Same.f
 exact lo
instance r11_Same.mI {a0 a1 k} : LeC (r11_Same.f k a0 a1) (r11_Same.f (k + 1) a0 a1) := ⟨r11_Same.mono _ _ _⟩
def r11_Same.T6 : Bool × List (List Nat × List Nat) := (true, [([], []), ([0], [0]), ([], []), ([1, 2], [1, 2]), ([3], [3]), ([], []), ([5], [5]), ([], []), ([6, 7], [6, 7]), ([8], [8]), ([], []), ([], []), ([10, 4, 0, 1, 2, 3, 4, 10, 11], [4, 10]), ([11, 9, 12, 0, 1, 2, 3, 4, 5, 6, 7, 8, 9, 10, 11, 12], [9, 11])])
def r11_Same.B6 : List Nat := [0, 1, 0, 7, 15, 0, 32, 0, 224, 480, 0, 0, 3103, 8191]
theorem r11_Same.tab6 : rtab .any (opsOf Try.f13 6) = r11_Same.T6 := by kernel_rfl
theorem r11_Same.bits6 : waitsOk r11_Same.T6.2 r11_Same.B6 = true := by kernel_rfl
theorem r11_Same.calls (k : Nat) (A0_0 : Option Addr) (c0_0 : Nat) (l0_0 : List (S59)) (A1_0 : Option Addr) (c1_0 : Nat) (l1_0 : List (S59)) (r : Bool) (w : World) (hr0_0 : Kd.C k59 w A0_0 l0_0.length l0_0) (hc0_0 : l0_0.length ≤ c0_0) (hr1_0 : Kd.C k59 w A1_0 l1_0.length l1_0) (hc1_0 : l1_0.length ≤ c1_0) (h : r11_Same.f k l0_0 l1_0 = some r) :
 Calls Try.prog 13 #[.agg #[.slice A0_0 l0_0.length c0_0], .agg #[.slice A1_0 l1_0.length c1_0]] w fun e w' => e = .returned (.bool r) ∧ Below w.heap.size w w' := by
 have hu24 := Try.underlying24
 have hu59 := Try.underlying59
 have HR0_0 := Aside0.mk hr0_0
 have HC0_0 := Aside0.mk hc0_0
 clear hr0_0 hc0_0
 have HR1_0 := Aside0.mk hr1_0
 have HC1_0 := Aside0.mk hc1_0
 clear hr1_0 hc1_0
 have HB := Aside0.mk (Below.refl w.heap.size w)
 have H : (if (l0_0.length : Int) = (l1_0.length : Int) then (r11_Same.l0 k 0 l0_0 l1_0) else (some false)) = some r := h
 clear h
 by_cases c3 : (l0_0.length : Int) = (l1_0.length : Int)
 ·
  rw [if_pos c3] at H
  have c3b0 : ((l0_0.length : Int) == (l1_0.length : Int)) = true := beq_iff_eq.mpr c3
  have c3b1 : ((l0_0.length : Int) != (l1_0.length : Int)) = false := bne_eq_false_iff_eq.mpr c3
  have c3b2 : (l0_0.length == l1_0.length) = true := by first | simpa using c3 | (simp at c3 ⊢; omega)
  clear c3
  have H' := Aside0.mk H
  clear H
  go_enter Try.func13, Try.ntmps13
  go_wp2_with (first | ((with_reducible refine gate_dst (N := 2) rfl ?_); refine bx (N := 2) #[.slice A0_0 l0_0.length c0_0] 24 ?_; intro gb338 hg w4 hbox hb; have BK338 := Aside0.mk (hbox); have GW338 := gw hg (uW HB.out); have GE338 := GW338; replace HB := cW HB hb; clear hb hbox hg) | ((with_reducible refine gate_dst (N := 3) rfl ?_); refine bx (N := 3) #[.slice A1_0 l1_0.length c1_0] 24 ?_; intro gb339 hg w5 hbox hb; have BK339 := Aside0.mk (hbox); have GW339 := gw hg bl; have GE339 := GW339; replace HB := Aside0.mk (below_step bl hb); have NB338_339 := Aside0.mk ((by rw [hg]; exact Nat.ne_of_lt (blk_lt (g := gb338) (o := .cells #[.slice A0_0 l0_0.length c0_0] 24 (0, 0)) (uB BK338.out)) : gb338 ≠ gb339)); have NB339_338 := Aside0.mk ((by rw [hg]; exact Nat.ne_of_gt (blk_lt (g := gb338) (o := .cells #[.slice A0_0 l0_0.length c0_0] 24 (0, 0)) (uB BK338.out)) : gb339 ≠ gb338)); replace BK338 := cB BK338 hb; clear hb hbox hg; have hnb6 := NB338_339.out; have hnc6 := NB339_338.out; obtain ⟨hcz7_0, hfz7_0⟩ := z1 BK338; obtain ⟨hcz8_0, hfz8_0⟩ := z1 BK339))
  go_loopg [5] k (fun kq v5 w' => ∃ (x5_1 : Int), v5 = .int .i64 x5_1 ∧ Aside0 (r11_Same.l0 kq x5_1 l0_0 l1_0 = some r) ∧ Aside0 (kq ≤ k) ∧ Aside0 (w'.heap[gb338]? = some (.cells #[(.slice A0_0 l0_0.length c0_0)] 24 (0, 0))) ∧ Aside0 (w'.heap[gb339]? = some (.cells #[(.slice A1_0 l1_0.length c1_0)] 24 (0, 0))) ∧ Aside0 (Below w.heap.size w w'))
  case atStart => exact ⟨(0), rs_, H', ⟨Nat.le_refl _⟩, ⟨uB BK338.out⟩, ⟨uB BK339.out⟩, ⟨bl⟩⟩
  case round =>
   clear H'
   try clear c1
   try clear p2
   try clear c3
   try clear c3b0
   try clear c3b1
   try clear c3b2
   try clear c6
   try clear hcz7_0
   try clear hcz8_0
   try clear hfz7_0
   try clear hfz8_0
   obtain ⟨x5_1, rfl, HA, HK1, BK338, BK339, HB⟩ := hrel
   cases gk with
   | zero => exact absurd HA.out (by simp [r11_Same.l0])
   | succ k1 =>
    have H := HA.out
    clear HA
    simp only [r11_Same.l0] at H
    by_cases c9 : x5_1 < (l0_0.length : Int)
    ·
     rw [if_pos c9] at H
     have c9b0 : decide (x5_1 < (l0_0.length : Int)) = true := decide_eq_true c9
     clear c9
     by_cases c10 : 0 ≤ x5_1
     ·
      rw [if_pos c10] at H
      have c10b0 : decide (0 ≤ x5_1) = true := decide_eq_true c10
      clear c10
      by_cases c11 : x5_1 < (l1_0.length : Int)
      ·
       rw [if_pos c11] at H
       have c11b0 : decide (x5_1 < (l1_0.length : Int)) = true := decide_eq_true c11
       clear c11
       by_cases c12 : ((rd_T59 l0_0 x5_1).f0) = ((rd_T59 l1_0 x5_1).f0)
       ·
        rw [if_pos c12] at H
        have c12b0 : (((rd_T59 l0_0 x5_1).f0) == ((rd_T59 l1_0 x5_1).f0)) = true := beq_iff_eq.mpr c12
        have c12b1 : (((rd_T59 l0_0 x5_1).f0) != ((rd_T59 l1_0 x5_1).f0)) = false := bne_eq_false_iff_eq.mpr c12
        clear c12
        by_cases c13 : ((rd_T59 l0_0 x5_1).f1).toList = ((rd_T59 l1_0 x5_1).f1).toList
        ·
         rw [if_pos c13] at H
         have c13b0 : (((rd_T59 l0_0 x5_1).f1).toList == ((rd_T59 l1_0 x5_1).f1).toList) = true := beq_iff_eq.mpr c13
         have c13b1 : (((rd_T59 l0_0 x5_1).f1).toList != ((rd_T59 l1_0 x5_1).f1).toList) = false := bne_eq_false_iff_eq.mpr c13
         clear c13
         obtain ⟨t344, A14, H⟩ := bs H
         try dsimp only at H
         by_cases c15 : t344 = true
         ·
          subst c15
          rw [if_pos rfl] at H
          have H' := Aside0.mk H
          clear H
          have hnb16 := NB338_339.out
          have hnc16 := NB339_338.out
          obtain ⟨hcz17_0, hfz17_0⟩ := z1 BK338
          try go_wp2
          replace BK338 := Aside0.mk (blk_drew BK338.out)
          replace BK339 := Aside0.mk (blk_drew BK339.out)
          replace HB := Aside0.mk (below_drew1 HB.out)
          have p340 : 0 ≤ (x5_1 : Int) := od
          have q340 : x5_1 < (l0_0.length : Int) := od
          obtain ⟨ad340, A340_2, c340_2, e340, hx340_0, hx340_1, hx340_2, hl340_2, hi340_2⟩ := at_T59 HR0_0.out x5_1 p340 q340
          have hw340_2 := hx340_2
          have hw340_1 := hx340_1
          have hw340_0 := hx340_0
          cases e340
          replace hx340_0 := kc HB hx340_0
          replace hx340_1 := kc HB hx340_1
          replace hx340_2 := kc HB hx340_2
          have HR340_2 := Aside0.mk hi340_2
          have HC340_2 := Aside0.mk hl340_2
          clear hi340_2 hl340_2
          replace p340 := eq_true p340
          replace q340 := eq_true q340
          have p341 : 0 ≤ (x5_1 : Int) := od
          have q341 : x5_1 < (l1_0.length : Int) := od
          obtain ⟨ad341, A341_2, c341_2, e341, hx341_0, hx341_1, hx341_2, hl341_2, hi341_2⟩ := at_T59 HR1_0.out x5_1 p341 q341
          have hw341_2 := hx341_2
          have hw341_1 := hx341_1
          have hw341_0 := hx341_0
          cases e341
          replace hx341_0 := kc HB hx341_0
          replace hx341_1 := kc HB hx341_1
          replace hx341_2 := kc HB hx341_2
          have HR341_2 := Aside0.mk hi341_2
          have HC341_2 := Aside0.mk hl341_2
          clear hi341_2 hl341_2
          replace p341 := eq_true p341
          replace q341 := eq_true q341
          refine start_ (n := 14) (S := fun w' => w'.cell? ⟨gb338, 0, none⟩ = some (.slice (some ad340) l0_0.length c0_0) ∧ w'.cell? ⟨gb339, 0, none⟩ = some (.slice (some ad341) l1_0.length c1_0) ∧ w'.cell? (ad340.add ((x5_1).toNat * 3)) = some (.int .i64 ((rd_T59 l0_0 x5_1).f0)) ∧ w'.cell? ⟨(ad340.add ((x5_1).toNat * 3)).block, (ad340.add ((x5_1).toNat * 3)).off + 1, none⟩ = some (.string ((rd_T59 l0_0 x5_1).f1)) ∧ w'.cell? ⟨(ad340.add ((x5_1).toNat * 3)).block, (ad340.add ((x5_1).toNat * 3)).off + 2, none⟩ = some (.slice A340_2 ((rd_T59 l0_0 x5_1).f2).length c340_2) ∧ w'.cell? (ad341.add ((x5_1).toNat * 3)) = some (.int .i64 ((rd_T59 l1_0 x5_1).f0)) ∧ w'.cell? ⟨(ad341.add ((x5_1).toNat * 3)).block, (ad341.add ((x5_1).toNat * 3)).off + 1, none⟩ = some (.string ((rd_T59 l1_0 x5_1).f1)) ∧ w'.cell? ⟨(ad341.add ((x5_1).toNat * 3)).block, (ad341.add ((x5_1).toNat * 3)).off + 2, none⟩ = some (.slice A341_2 ((rd_T59 l1_0 x5_1).f2).length c341_2)) (ds := []) _ (by kernel_rfl) rfl rfl ⟨(blk_cell BK338.out 0).trans rfl, (blk_cell BK339.out 0).trans rfl, (kc HB hw340_0), (kc HB hw340_1), (kc HB hw340_2), (kc HB hw341_0), (kc HB hw341_1), (kc HB hw341_2)⟩ (fun hHeld => ?_); refine with_tabW r11_Same.tab6 r11_Same.bits6 (fun HT_ HW_ => ?_)
          generalize wr.drew = w18 at BK338 BK339 HB HR340_2 HR341_2 hx340_0 hx340_1 hx340_2 hx341_0 hx341_1 hx341_2 hHeld ⊢
          refine p1 0 (some 22) ?_
          refine p1 2 (some 24) ?_
          refine p1 5 (some 27) ?_
          refine p1 7 (some 29) ?_
          refine t1 1 (some 23) rfl rfl hHeld (Or.inl ⟨by rfl, by rintro w' ⟨s0, s1, s2, s3, s4, s5, s6, s7⟩; go_simp; with_reducible rfl⟩) ?_
          refine p1 3 (some 25) ?_
          refine t1 4 (some 26) rfl rfl hHeld (Or.inl ⟨by rfl, by rintro w' ⟨s0, s1, s2, s3, s4, s5, s6, s7⟩; go_simp; with_reducible rfl⟩) ?_
          refine t1 6 (some 28) rfl rfl hHeld (Or.inl ⟨by rfl, by rintro w' ⟨s0, s1, s2, s3, s4, s5, s6, s7⟩; go_simp; with_reducible rfl⟩) ?_
          refine p1 8 (some 30) ?_
          refine t1 9 (some 31) rfl rfl hHeld (Or.inl ⟨by rfl, by rintro w' ⟨s0, s1, s2, s3, s4, s5, s6, s7⟩; go_simp; with_reducible rfl⟩) ?_
          refine join_ (σ := Nat × Nat) 2 #[true, true, true, true, true, true, true, true, true, true, true, true, false, false] (fun s_ => [(6, .pointer (some ⟨s_.1, 0, none⟩)), (7, .pointer (some ⟨s_.2, 0, none⟩))]) (fun s_ w' => (w'.cell? ⟨gb338, 0, none⟩ = some (.slice (some ad340) l0_0.length c0_0) ∧ w'.cell? ⟨gb339, 0, none⟩ = some (.slice (some ad341) l1_0.length c1_0) ∧ w'.cell? (ad340.add ((x5_1).toNat * 3)) = some (.int .i64 ((rd_T59 l0_0 x5_1).f0)) ∧ w'.cell? ⟨(ad340.add ((x5_1).toNat * 3)).block, (ad340.add ((x5_1).toNat * 3)).off + 1, none⟩ = some (.string ((rd_T59 l0_0 x5_1).f1)) ∧ w'.cell? ⟨(ad340.add ((x5_1).toNat * 3)).block, (ad340.add ((x5_1).toNat * 3)).off + 2, none⟩ = some (.slice A340_2 ((rd_T59 l0_0 x5_1).f2).length c340_2) ∧ w'.cell? (ad341.add ((x5_1).toNat * 3)) = some (.int .i64 ((rd_T59 l1_0 x5_1).f0)) ∧ w'.cell? ⟨(ad341.add ((x5_1).toNat * 3)).block, (ad341.add ((x5_1).toNat * 3)).off + 1, none⟩ = some (.string ((rd_T59 l1_0 x5_1).f1)) ∧ w'.cell? ⟨(ad341.add ((x5_1).toNat * 3)).block, (ad341.add ((x5_1).toNat * 3)).off + 2, none⟩ = some (.slice A341_2 ((rd_T59 l1_0 x5_1).f2).length c341_2)) ∧ (w'.heap[gb338]? = some (.cells #[.slice (some ad340) l0_0.length c0_0] 24 (0, 0))) ∧ (w'.heap[gb339]? = some (.cells #[.slice (some ad341) l1_0.length c1_0] 24 (0, 0))) ∧ (w'.heap[s_.1]? = some (.cells #[.int .i64 0, .string (⟨#[]⟩ : ByteArray), .slice none 0 0] 59 (0, 0))) ∧ (w'.heap[s_.2]? = some (.cells #[.int .i64 0, .string (⟨#[]⟩ : ByteArray), .slice none 0 0] 59 (0, 0))) ∧ (w.heap.size ≤ s_.1) ∧ (w.heap.size ≤ s_.1) ∧ (gb338 ≠ s_.1) ∧ (s_.1 ≠ gb338) ∧ (gb339 ≠ s_.1) ∧ (s_.1 ≠ gb339) ∧ (s_.2 ≠ s_.1) ∧ (s_.1 ≠ s_.2) ∧ (w.heap.size ≤ s_.2) ∧ (w.heap.size ≤ s_.2) ∧ (gb338 ≠ s_.2) ∧ (s_.2 ≠ gb338) ∧ (gb339 ≠ s_.2) ∧ (s_.2 ≠ gb339) ∧ (Below w.heap.size w w')) ?_ ?_
          rotate_left
          ·
           intro hCont
           refine two_ (i := 10) (j := 11) (Ni := some 6) (Nj := some 7) #[true, true, true, true, true, true, true, true, true, true, true, false, false, false] #[true, true, true, true, true, true, true, true, true, true, false, true, false, false] rfl rfl rfl rfl (two_of HT_.out (by kernel_rfl)) (by decide) (by decide) (fun K hK => ?_) (fun K hK => ?_)
           ·
            skip
            refine box_step ?hg (N := 6) ?hd (cs := #[.int .i64 0, .string (⟨#[]⟩ : ByteArray), .slice none 0 0]) (t := 59) ?hr ?_; (case hd => rfl); (case hg => rfl); (case hr => first | (go_simp; done) | (go_simp; rfl))
            intro gb342 hg w19 hbox hb
            have BK342 := Aside0.mk (hbox)
            have GW342 := gw hg bl
            have GE342 := gw hg bl
            replace HB := Aside0.mk (below_step bl hb)
            have NB338_342 := Aside0.mk ((by rw [hg]; exact Nat.ne_of_lt (blk_lt (g := gb338) (o := .cells #[.slice (some ad340) l0_0.length c0_0] 24 (0, 0)) (uB BK338.out)) : gb338 ≠ gb342))
            have NB342_338 := Aside0.mk ((by rw [hg]; exact Nat.ne_of_gt (blk_lt (g := gb338) (o := .cells #[.slice (some ad340) l0_0.length c0_0] 24 (0, 0)) (uB BK338.out)) : gb342 ≠ gb338))
            replace BK338 := cB BK338 hb
            have NB339_342 := Aside0.mk ((by rw [hg]; exact Nat.ne_of_lt (blk_lt (g := gb339) (o := .cells #[.slice (some ad341) l1_0.length c1_0] 24 (0, 0)) (uB BK339.out)) : gb339 ≠ gb342))
            have NB342_339 := Aside0.mk ((by rw [hg]; exact Nat.ne_of_gt (blk_lt (g := gb339) (o := .cells #[.slice (some ad341) l1_0.length c1_0] 24 (0, 0)) (uB BK339.out)) : gb342 ≠ gb339))
            replace BK339 := cB BK339 hb
            clear hb hbox hg
            refine hK.out _ _ ⟨(blk_cell BK338.out 0).trans rfl, (blk_cell BK339.out 0).trans rfl, (kc HB hw340_0), (kc HB hw340_1), (kc HB hw340_2), (kc HB hw341_0), (kc HB hw341_1), (kc HB hw341_2)⟩ (fun hHeld => ?_)
            clear hK K
            refine norm_ (a' := ?_) ?_ ?_
            rotate_left
            ·
             show Act.put _ (some 6) _ = _
             simp only [Act.put, List.setIfInBounds_toArray, List.set_cons_zero, List.set_cons_succ, i64_w, i32_w]
             rfl
            refine o1 11 (some 7) rfl rfl (fun K hK => ?_)
            refine box_step ?hg (N := 7) ?hd (cs := #[.int .i64 0, .string (⟨#[]⟩ : ByteArray), .slice none 0 0]) (t := 59) ?hr ?_; (case hd => rfl); (case hg => rfl); (case hr => first | (go_simp; done) | (go_simp; rfl))
            intro gb343 hg w20 hbox hb
            have BK343 := Aside0.mk (hbox)
            have GW343 := gw hg bl
            have GE343 := gw hg bl
            replace HB := Aside0.mk (below_step bl hb)
            have NB338_343 := Aside0.mk ((by rw [hg]; exact Nat.ne_of_lt (blk_lt (g := gb338) (o := .cells #[.slice (some ad340) l0_0.length c0_0] 24 (0, 0)) (uB BK338.out)) : gb338 ≠ gb343))
            have NB343_338 := Aside0.mk ((by rw [hg]; exact Nat.ne_of_gt (blk_lt (g := gb338) (o := .cells #[.slice (some ad340) l0_0.length c0_0] 24 (0, 0)) (uB BK338.out)) : gb343 ≠ gb338))
            replace BK338 := cB BK338 hb
            have NB339_343 := Aside0.mk ((by rw [hg]; exact Nat.ne_of_lt (blk_lt (g := gb339) (o := .cells #[.slice (some ad341) l1_0.length c1_0] 24 (0, 0)) (uB BK339.out)) : gb339 ≠ gb343))
            have NB343_339 := Aside0.mk ((by rw [hg]; exact Nat.ne_of_gt (blk_lt (g := gb339) (o := .cells #[.slice (some ad341) l1_0.length c1_0] 24 (0, 0)) (uB BK339.out)) : gb343 ≠ gb339))
            replace BK339 := cB BK339 hb
            have NB342_343 := Aside0.mk ((by rw [hg]; exact Nat.ne_of_lt (blk_lt (g := gb342) (o := .cells #[.int .i64 0, .string (⟨#[]⟩ : ByteArray), .slice none 0 0] 59 (0, 0)) (uB BK342.out)) : gb342 ≠ gb343))
            have NB343_342 := Aside0.mk ((by rw [hg]; exact Nat.ne_of_gt (blk_lt (g := gb342) (o := .cells #[.int .i64 0, .string (⟨#[]⟩ : ByteArray), .slice none 0 0] 59 (0, 0)) (uB BK342.out)) : gb343 ≠ gb342))
            replace BK342 := cB BK342 hb
            clear hb hbox hg
            refine hK.out _ _ ⟨(blk_cell BK338.out 0).trans rfl, (blk_cell BK339.out 0).trans rfl, (kc HB hw340_0), (kc HB hw340_1), (kc HB hw340_2), (kc HB hw341_0), (kc HB hw341_1), (kc HB hw341_2)⟩ (fun hHeld => ?_)
            clear hK K
            refine norm_ (a' := ?_) ?_ ?_
            rotate_left
            ·
             show Act.put _ (some 7) _ = _
             simp only [Act.put, List.setIfInBounds_toArray, List.set_cons_zero, List.set_cons_succ, i64_w, i32_w]
             rfl
            exact norm_ (by simp only [putAll, Act.put, List.setIfInBounds_toArray, List.set_cons_zero, List.set_cons_succ]) (hCont (gb342, gb343) _ ⟨hHeld, (uB BK338.out), (uB BK339.out), (uB BK342.out), (uB BK343.out), GW342.out, GE342.out, NB338_342.out, NB342_338.out, NB339_342.out, NB342_339.out, NB343_342.out, NB342_343.out, GW343.out, GE343.out, NB338_343.out, NB343_338.out, NB339_343.out, NB343_339.out, bl⟩)
           ·
            skip
            refine box_step ?hg (N := 7) ?hd (cs := #[.int .i64 0, .string (⟨#[]⟩ : ByteArray), .slice none 0 0]) (t := 59) ?hr ?_; (case hd => rfl); (case hg => rfl); (case hr => first | (go_simp; done) | (go_simp; rfl))
            intro gb343 hg w19 hbox hb
            have BK343 := Aside0.mk (hbox)
            have GW343 := gw hg bl
            have GE343 := gw hg bl
            replace HB := Aside0.mk (below_step bl hb)
            have NB338_343 := Aside0.mk ((by rw [hg]; exact Nat.ne_of_lt (blk_lt (g := gb338) (o := .cells #[.slice (some ad340) l0_0.length c0_0] 24 (0, 0)) (uB BK338.out)) : gb338 ≠ gb343))
            have NB343_338 := Aside0.mk ((by rw [hg]; exact Nat.ne_of_gt (blk_lt (g := gb338) (o := .cells #[.slice (some ad340) l0_0.length c0_0] 24 (0, 0)) (uB BK338.out)) : gb343 ≠ gb338))
            replace BK338 := cB BK338 hb
            have NB339_343 := Aside0.mk ((by rw [hg]; exact Nat.ne_of_lt (blk_lt (g := gb339) (o := .cells #[.slice (some ad341) l1_0.length c1_0] 24 (0, 0)) (uB BK339.out)) : gb339 ≠ gb343))
            have NB343_339 := Aside0.mk ((by rw [hg]; exact Nat.ne_of_gt (blk_lt (g := gb339) (o := .cells #[.slice (some ad341) l1_0.length c1_0] 24 (0, 0)) (uB BK339.out)) : gb343 ≠ gb339))
            replace BK339 := cB BK339 hb
            clear hb hbox hg
            refine hK.out _ _ ⟨(blk_cell BK338.out 0).trans rfl, (blk_cell BK339.out 0).trans rfl, (kc HB hw340_0), (kc HB hw340_1), (kc HB hw340_2), (kc HB hw341_0), (kc HB hw341_1), (kc HB hw341_2)⟩ (fun hHeld => ?_)
            clear hK K
            refine norm_ (a' := ?_) ?_ ?_
            rotate_left
            ·
             show Act.put _ (some 7) _ = _
             simp only [Act.put, List.setIfInBounds_toArray, List.set_cons_zero, List.set_cons_succ, i64_w, i32_w]
             rfl
            refine o1 10 (some 6) rfl rfl (fun K hK => ?_)
            refine box_step ?hg (N := 6) ?hd (cs := #[.int .i64 0, .string (⟨#[]⟩ : ByteArray), .slice none 0 0]) (t := 59) ?hr ?_; (case hd => rfl); (case hg => rfl); (case hr => first | (go_simp; done) | (go_simp; rfl))
            intro gb342 hg w20 hbox hb
            have BK342 := Aside0.mk (hbox)
            have GW342 := gw hg bl
            have GE342 := gw hg bl
            replace HB := Aside0.mk (below_step bl hb)
            have NB338_342 := Aside0.mk ((by rw [hg]; exact Nat.ne_of_lt (blk_lt (g := gb338) (o := .cells #[.slice (some ad340) l0_0.length c0_0] 24 (0, 0)) (uB BK338.out)) : gb338 ≠ gb342))
            have NB342_338 := Aside0.mk ((by rw [hg]; exact Nat.ne_of_gt (blk_lt (g := gb338) (o := .cells #[.slice (some ad340) l0_0.length c0_0] 24 (0, 0)) (uB BK338.out)) : gb342 ≠ gb338))
            replace BK338 := cB BK338 hb
            have NB339_342 := Aside0.mk ((by rw [hg]; exact Nat.ne_of_lt (blk_lt (g := gb339) (o := .cells #[.slice (some ad341) l1_0.length c1_0] 24 (0, 0)) (uB BK339.out)) : gb339 ≠ gb342))
            have NB342_339 := Aside0.mk ((by rw [hg]; exact Nat.ne_of_gt (blk_lt (g := gb339) (o := .cells #[.slice (some ad341) l1_0.length c1_0] 24 (0, 0)) (uB BK339.out)) : gb342 ≠ gb339))
            replace BK339 := cB BK339 hb
            have NB343_342 := Aside0.mk ((by rw [hg]; exact Nat.ne_of_lt (blk_lt (g := gb343) (o := .cells #[.int .i64 0, .string (⟨#[]⟩ : ByteArray), .slice none 0 0] 59 (0, 0)) (uB BK343.out)) : gb343 ≠ gb342))
            have NB342_343 := Aside0.mk ((by rw [hg]; exact Nat.ne_of_gt (blk_lt (g := gb343) (o := .cells #[.int .i64 0, .string (⟨#[]⟩ : ByteArray), .slice none 0 0] 59 (0, 0)) (uB BK343.out)) : gb342 ≠ gb343))
            replace BK343 := cB BK343 hb
            clear hb hbox hg
            refine hK.out _ _ ⟨(blk_cell BK338.out 0).trans rfl, (blk_cell BK339.out 0).trans rfl, (kc HB hw340_0), (kc HB hw340_1), (kc HB hw340_2), (kc HB hw341_0), (kc HB hw341_1), (kc HB hw341_2)⟩ (fun hHeld => ?_)
            clear hK K
            refine norm_ (a' := ?_) ?_ ?_
            rotate_left
            ·
             show Act.put _ (some 6) _ = _
             simp only [Act.put, List.setIfInBounds_toArray, List.set_cons_zero, List.set_cons_succ, i64_w, i32_w]
             rfl
            exact norm_ (by simp only [putAll, Act.put, List.setIfInBounds_toArray, List.set_cons_zero, List.set_cons_succ]) (hCont (gb342, gb343) _ ⟨hHeld, (uB BK338.out), (uB BK339.out), (uB BK342.out), (uB BK343.out), GW342.out, GE342.out, NB338_342.out, NB342_338.out, NB339_342.out, NB342_339.out, NB343_342.out, NB342_343.out, GW343.out, GE343.out, NB338_343.out, NB343_338.out, NB339_343.out, NB343_339.out, bl⟩)
          rintro ⟨gb342, gb343⟩ w21 ⟨hS_, h0_, h1_, h2_, h3_, h4_, h5_, h6_, h7_, h8_, h9_, h10_, h11_, h12_, h13_, h14_, h15_, h16_, h17_, h18_⟩
          have n0_ : Aside0 (w21.heap[gb338]? = some (.cells #[.slice (some ad340) l0_0.length c0_0] 24 (0, 0))) := ⟨h0_⟩
          have n1_ : Aside0 (w21.heap[gb339]? = some (.cells #[.slice (some ad341) l1_0.length c1_0] 24 (0, 0))) := ⟨h1_⟩
          have n2_ : Aside0 (w21.heap[gb342]? = some (.cells #[.int .i64 0, .string (⟨#[]⟩ : ByteArray), .slice none 0 0] 59 (0, 0))) := ⟨h2_⟩
          have n3_ : Aside0 (w21.heap[gb343]? = some (.cells #[.int .i64 0, .string (⟨#[]⟩ : ByteArray), .slice none 0 0] 59 (0, 0))) := ⟨h3_⟩
          have n4_ : Aside0 (w.heap.size ≤ gb342) := ⟨h4_⟩
          have n5_ : Aside0 (w.heap.size ≤ gb342) := ⟨h5_⟩
          have n6_ : Aside0 (gb338 ≠ gb342) := ⟨h6_⟩
          have n7_ : Aside0 (gb342 ≠ gb338) := ⟨h7_⟩
          have n8_ : Aside0 (gb339 ≠ gb342) := ⟨h8_⟩
          have n9_ : Aside0 (gb342 ≠ gb339) := ⟨h9_⟩
          have n10_ : Aside0 (gb343 ≠ gb342) := ⟨h10_⟩
          have n11_ : Aside0 (gb342 ≠ gb343) := ⟨h11_⟩
          have n12_ : Aside0 (w.heap.size ≤ gb343) := ⟨h12_⟩
          have n13_ : Aside0 (w.heap.size ≤ gb343) := ⟨h13_⟩
          have n14_ : Aside0 (gb338 ≠ gb343) := ⟨h14_⟩
          have n15_ : Aside0 (gb343 ≠ gb338) := ⟨h15_⟩
          have n16_ : Aside0 (gb339 ≠ gb343) := ⟨h16_⟩
          have n17_ : Aside0 (gb343 ≠ gb339) := ⟨h17_⟩
          have n18_ : Aside0 (Below w.heap.size w w21) := ⟨h18_⟩
          clear BK338
          clear BK339
          clear HB
          clear h0_ h1_ h2_ h3_ h4_ h5_ h6_ h7_ h8_ h9_ h10_ h11_ h12_ h13_ h14_ h15_ h16_ h17_ h18_
          have BK338 := n0_
          have BK339 := n1_
          have BK342 := n2_
          have BK343 := n3_
          have GW342 := n4_
          have GE342 := n5_
          have NB338_342 := n6_
          have NB342_338 := n7_
          have NB339_342 := n8_
          have NB342_339 := n9_
          have NB343_342 := n10_
          have NB342_343 := n11_
          have GW343 := n12_
          have GE343 := n13_
          have NB338_343 := n14_
          have NB343_338 := n15_
          have NB339_343 := n16_
          have NB343_339 := n17_
          have HB := n18_
          clear n0_ n1_ n2_ n3_ n4_ n5_ n6_ n7_ n8_ n9_ n10_ n11_ n12_ n13_ n14_ n15_ n16_ n17_ n18_
          have hHeld : w21.cell? ⟨gb338, 0, none⟩ = some (.slice (some ad340) l0_0.length c0_0) ∧ w21.cell? ⟨gb339, 0, none⟩ = some (.slice (some ad341) l1_0.length c1_0) ∧ w21.cell? (ad340.add ((x5_1).toNat * 3)) = some (.int .i64 ((rd_T59 l0_0 x5_1).f0)) ∧ w21.cell? ⟨(ad340.add ((x5_1).toNat * 3)).block, (ad340.add ((x5_1).toNat * 3)).off + 1, none⟩ = some (.string ((rd_T59 l0_0 x5_1).f1)) ∧ w21.cell? ⟨(ad340.add ((x5_1).toNat * 3)).block, (ad340.add ((x5_1).toNat * 3)).off + 2, none⟩ = some (.slice A340_2 ((rd_T59 l0_0 x5_1).f2).length c340_2) ∧ w21.cell? (ad341.add ((x5_1).toNat * 3)) = some (.int .i64 ((rd_T59 l1_0 x5_1).f0)) ∧ w21.cell? ⟨(ad341.add ((x5_1).toNat * 3)).block, (ad341.add ((x5_1).toNat * 3)).off + 1, none⟩ = some (.string ((rd_T59 l1_0 x5_1).f1)) ∧ w21.cell? ⟨(ad341.add ((x5_1).toNat * 3)).block, (ad341.add ((x5_1).toNat * 3)).off + 2, none⟩ = some (.slice A341_2 ((rd_T59 l1_0 x5_1).f2).length c341_2) := hS_
          refine norm_ (a' := ?_) ?_ ?_
          rotate_left
          ·
           simp only [putAll, Act.put, List.setIfInBounds_toArray, List.set_cons_zero, List.set_cons_succ]
           rfl
          refine o1 12 none rfl rfl (fun K hK => ?_)
          have hs22 : w21.cell? ⟨gb342, 0, none⟩ = some (.int .i64 0) := (blk_cell BK342.out 0).trans rfl
          have hfs22 := blk_frozen BK342.out 0
          have hns22_0 := NB338_342.out
          have hns22_1 := NB339_342.out
          have hns22_3 := NB343_342.out
          have hms22_0 := NB342_338.out
          have hms22_1 := NB342_339.out
          have hms22_3 := NB342_343.out
          have hs23 : w21.cell? ⟨gb342, 1, none⟩ = some (.string (⟨#[]⟩ : ByteArray)) := (blk_cell BK342.out 1).trans rfl
          have hfs23 := blk_frozen BK342.out 1
          have hns23_0 := NB338_342.out
          have hns23_1 := NB339_342.out
          have hns23_3 := NB343_342.out
          have hms23_0 := NB342_338.out
          have hms23_1 := NB342_339.out
          have hms23_3 := NB342_343.out
          have hs24 : w21.cell? ⟨gb342, 2, none⟩ = some (.slice none 0 0) := (blk_cell BK342.out 2).trans rfl
          have hfs24 := blk_frozen BK342.out 2
          have hns24_0 := NB338_342.out
          have hns24_1 := NB339_342.out
          have hns24_3 := NB343_342.out
          have hms24_0 := NB342_338.out
          have hms24_1 := NB342_339.out
          have hms24_3 := NB342_343.out
          refine skip_ (w1 := ?_) (by rfl) rfl ?_ ?_
          rotate_left
          ·
           go_simp
           rfl
          refine hK.out _ _ ⟨(ct NB338_342.out ((ct NB338_342.out ((ct NB338_342.out (hHeld.1)))))), (ct NB339_342.out ((ct NB339_342.out ((ct NB339_342.out (hHeld.2.1)))))), (ct (nb hw340_0 GW342) ((ct (nb hw340_0 GW342) ((ct (nb hw340_0 GW342) (hHeld.2.2.1)))))), (ct (nb hw340_1 GW342) ((ct (nb hw340_1 GW342) ((ct (nb hw340_1 GW342) (hHeld.2.2.2.1)))))), (ct (nb hw340_2 GW342) ((ct (nb hw340_2 GW342) ((ct (nb hw340_2 GW342) (hHeld.2.2.2.2.1)))))), (ct (nb hw341_0 GW342) ((ct (nb hw341_0 GW342) ((ct (nb hw341_0 GW342) (hHeld.2.2.2.2.2.1)))))), (ct (nb hw341_1 GW342) ((ct (nb hw341_1 GW342) ((ct (nb hw341_1 GW342) (hHeld.2.2.2.2.2.2.1)))))), (ct (nb hw341_2 GW342) ((ct (nb hw341_2 GW342) ((ct (nb hw341_2 GW342) (hHeld.2.2.2.2.2.2.2))))))⟩ (fun hHeld => ?_)
          clear hK K
          refine o1 13 none rfl rfl (fun K hK => ?_)
          have hs25 : w21.cell? ⟨gb343, 0, none⟩ = some (.int .i64 0) := (blk_cell BK343.out 0).trans rfl
          have hfs25 := blk_frozen BK343.out 0
          have hns25_0 := NB338_343.out
          have hns25_1 := NB339_343.out
          have hns25_2 := NB342_343.out
          have hms25_0 := NB343_338.out
          have hms25_1 := NB343_339.out
          have hms25_2 := NB343_342.out
          have hs26 : w21.cell? ⟨gb343, 1, none⟩ = some (.string (⟨#[]⟩ : ByteArray)) := (blk_cell BK343.out 1).trans rfl
          have hfs26 := blk_frozen BK343.out 1
          have hns26_0 := NB338_343.out
          have hns26_1 := NB339_343.out
          have hns26_2 := NB342_343.out
          have hms26_0 := NB343_338.out
          have hms26_1 := NB343_339.out
          have hms26_2 := NB343_342.out
          have hs27 : w21.cell? ⟨gb343, 2, none⟩ = some (.slice none 0 0) := (blk_cell BK343.out 2).trans rfl
          have hfs27 := blk_frozen BK343.out 2
          have hns27_0 := NB338_343.out
          have hns27_1 := NB339_343.out
          have hns27_2 := NB342_343.out
          have hms27_0 := NB343_338.out
          have hms27_1 := NB343_339.out
          have hms27_2 := NB343_342.out
          refine skip_ (w1 := ?_) (by rfl) rfl ?_ ?_
          rotate_left
          ·
           go_simp
           rfl
          refine hK.out _ _ ⟨(ct NB338_343.out ((ct NB338_343.out ((ct NB338_343.out (hHeld.1)))))), (ct NB339_343.out ((ct NB339_343.out ((ct NB339_343.out (hHeld.2.1)))))), (ct (nb hw340_0 GW343) ((ct (nb hw340_0 GW343) ((ct (nb hw340_0 GW343) (hHeld.2.2.1)))))), (ct (nb hw340_1 GW343) ((ct (nb hw340_1 GW343) ((ct (nb hw340_1 GW343) (hHeld.2.2.2.1)))))), (ct (nb hw340_2 GW343) ((ct (nb hw340_2 GW343) ((ct (nb hw340_2 GW343) (hHeld.2.2.2.2.1)))))), (ct (nb hw341_0 GW343) ((ct (nb hw341_0 GW343) ((ct (nb hw341_0 GW343) (hHeld.2.2.2.2.2.1)))))), (ct (nb hw341_1 GW343) ((ct (nb hw341_1 GW343) ((ct (nb hw341_1 GW343) (hHeld.2.2.2.2.2.2.1)))))), (ct (nb hw341_2 GW343) ((ct (nb hw341_2 GW343) ((ct (nb hw341_2 GW343) (hHeld.2.2.2.2.2.2.2))))))⟩ (fun hHeld => ?_)
          clear hK K
          refine done_ (done_of HT_.out (by kernel_rfl)) ?_
          have hnb28 := NB342_338.out
          have hnc28 := NB338_342.out
          have hnb29 := NB342_339.out
          have hnc29 := NB339_342.out
          have hnb30 := NB342_343.out
          have hnc30 := NB343_342.out
          obtain ⟨hcz31_0, hcz31_1, hcz31_2, hfz31_0, hfz31_1, hfz31_2⟩ := z3 BK342
          have hnb32 := NB343_338.out
          have hnc32 := NB338_343.out
          have hnb33 := NB343_339.out
          have hnc33 := NB339_343.out
          obtain ⟨hcz34_0, hcz34_1, hcz34_2, hfz34_0, hfz34_1, hfz34_2⟩ := z3 BK343
          try go_wp2_with (first | (go_at_call 32; (with_reducible refine (r10_Same.calls k1 _ _ ((rd_T59 l0_0 x5_1).f2) _ _ ((rd_T59 l1_0 x5_1).f2) true _ ?side1 ?side2 ?side3 ?side4 A14.out).mono ?_); (case side1 => exact Kd.C_below HR340_2.out bl); (case side2 => exact HC340_2.out); (case side3 => exact Kd.C_below HR341_2.out bl); (case side4 => exact HC341_2.out); rintro e w' ⟨rfl, ⟨nd, rfl⟩⟩))
          go_roundg k1
          case measure => have := HK1.out; omega
          case rel => exact ⟨(wrap64 (x5_1 + 1)), rs_, H', ⟨by have := HK1.out; omega⟩, ⟨by (with_reducible repeat (first | refine blk_drewN ?_ _ | refine blk_drew ?_ | refine blk_alloc ?_ _)); refine blk_far ?_ NB338_343.out _; (with_reducible repeat (first | refine blk_drewN ?_ _ | refine blk_drew ?_ | refine blk_alloc ?_ _)); refine blk_far ?_ NB338_343.out _; (with_reducible repeat (first | refine blk_drewN ?_ _ | refine blk_drew ?_ | refine blk_alloc ?_ _)); refine blk_far ?_ NB338_343.out _; (with_reducible repeat (first | refine blk_drewN ?_ _ | refine blk_drew ?_ | refine blk_alloc ?_ _)); refine blk_far ?_ NB338_342.out _; (with_reducible repeat (first | refine blk_drewN ?_ _ | refine blk_drew ?_ | refine blk_alloc ?_ _)); refine blk_far ?_ NB338_342.out _; (with_reducible repeat (first | refine blk_drewN ?_ _ | refine blk_drew ?_ | refine blk_alloc ?_ _)); refine blk_far ?_ NB338_342.out _; exact uB <| BK338.out⟩, ⟨by (with_reducible repeat (first | refine blk_drewN ?_ _ | refine blk_drew ?_ | refine blk_alloc ?_ _)); refine blk_far ?_ NB339_343.out _; (with_reducible repeat (first | refine blk_drewN ?_ _ | refine blk_drew ?_ | refine blk_alloc ?_ _)); refine blk_far ?_ NB339_343.out _; (with_reducible repeat (first | refine blk_drewN ?_ _ | refine blk_drew ?_ | refine blk_alloc ?_ _)); refine blk_far ?_ NB339_343.out _; (with_reducible repeat (first | refine blk_drewN ?_ _ | refine blk_drew ?_ | refine blk_alloc ?_ _)); refine blk_far ?_ NB339_342.out _; (with_reducible repeat (first | refine blk_drewN ?_ _ | refine blk_drew ?_ | refine blk_alloc ?_ _)); refine blk_far ?_ NB339_342.out _; (with_reducible repeat (first | refine blk_drewN ?_ _ | refine blk_drew ?_ | refine blk_alloc ?_ _)); refine blk_far ?_ NB339_342.out _; exact uB <| BK339.out⟩, ⟨bl⟩⟩
         ·
          replace c15 := Bool.eq_false_iff.mpr c15
          subst c15
          rw [if_neg (show ¬ (false = true) by decide)] at H
          obtain rfl := Option.some.inj H
          have hnb35 := NB338_339.out
          have hnc35 := NB339_338.out
          obtain ⟨hcz36_0, hfz36_0⟩ := z1 BK338
          try go_wp2
          replace BK338 := Aside0.mk (blk_drew BK338.out)
          replace BK339 := Aside0.mk (blk_drew BK339.out)
          replace HB := Aside0.mk (below_drew1 HB.out)
          have p340 : 0 ≤ (x5_1 : Int) := od
          have q340 : x5_1 < (l0_0.length : Int) := od
          obtain ⟨ad340, A340_2, c340_2, e340, hx340_0, hx340_1, hx340_2, hl340_2, hi340_2⟩ := at_T59 HR0_0.out x5_1 p340 q340
          have hw340_2 := hx340_2
          have hw340_1 := hx340_1
          have hw340_0 := hx340_0
          cases e340
          replace hx340_0 := kc HB hx340_0
          replace hx340_1 := kc HB hx340_1
          replace hx340_2 := kc HB hx340_2
          have HR340_2 := Aside0.mk hi340_2
          have HC340_2 := Aside0.mk hl340_2
          clear hi340_2 hl340_2
          replace p340 := eq_true p340
          replace q340 := eq_true q340
          have p341 : 0 ≤ (x5_1 : Int) := od
          have q341 : x5_1 < (l1_0.length : Int) := od
          obtain ⟨ad341, A341_2, c341_2, e341, hx341_0, hx341_1, hx341_2, hl341_2, hi341_2⟩ := at_T59 HR1_0.out x5_1 p341 q341
          have hw341_2 := hx341_2
          have hw341_1 := hx341_1
          have hw341_0 := hx341_0
          cases e341
          replace hx341_0 := kc HB hx341_0
          replace hx341_1 := kc HB hx341_1
          replace hx341_2 := kc HB hx341_2
          have HR341_2 := Aside0.mk hi341_2
          have HC341_2 := Aside0.mk hl341_2
          clear hi341_2 hl341_2
          replace p341 := eq_true p341
          replace q341 := eq_true q341
          refine start_ (n := 14) (S := fun w' => w'.cell? ⟨gb338, 0, none⟩ = some (.slice (some ad340) l0_0.length c0_0) ∧ w'.cell? ⟨gb339, 0, none⟩ = some (.slice (some ad341) l1_0.length c1_0) ∧ w'.cell? (ad340.add ((x5_1).toNat * 3)) = some (.int .i64 ((rd_T59 l0_0 x5_1).f0)) ∧ w'.cell? ⟨(ad340.add ((x5_1).toNat * 3)).block, (ad340.add ((x5_1).toNat * 3)).off + 1, none⟩ = some (.string ((rd_T59 l0_0 x5_1).f1)) ∧ w'.cell? ⟨(ad340.add ((x5_1).toNat * 3)).block, (ad340.add ((x5_1).toNat * 3)).off + 2, none⟩ = some (.slice A340_2 ((rd_T59 l0_0 x5_1).f2).length c340_2) ∧ w'.cell? (ad341.add ((x5_1).toNat * 3)) = some (.int .i64 ((rd_T59 l1_0 x5_1).f0)) ∧ w'.cell? ⟨(ad341.add ((x5_1).toNat * 3)).block, (ad341.add ((x5_1).toNat * 3)).off + 1, none⟩ = some (.string ((rd_T59 l1_0 x5_1).f1)) ∧ w'.cell? ⟨(ad341.add ((x5_1).toNat * 3)).block, (ad341.add ((x5_1).toNat * 3)).off + 2, none⟩ = some (.slice A341_2 ((rd_T59 l1_0 x5_1).f2).length c341_2)) (ds := []) _ (by kernel_rfl) rfl rfl ⟨(blk_cell BK338.out 0).trans rfl, (blk_cell BK339.out 0).trans rfl, (kc HB hw340_0), (kc HB hw340_1), (kc HB hw340_2), (kc HB hw341_0), (kc HB hw341_1), (kc HB hw341_2)⟩ (fun hHeld => ?_); refine with_tabW r11_Same.tab6 r11_Same.bits6 (fun HT_ HW_ => ?_)
          generalize wr.drew = w37 at BK338 BK339 HB HR340_2 HR341_2 hx340_0 hx340_1 hx340_2 hx341_0 hx341_1 hx341_2 hHeld ⊢
          refine p1 0 (some 22) ?_
          refine p1 2 (some 24) ?_
          refine p1 5 (some 27) ?_
          refine p1 7 (some 29) ?_
          refine t1 1 (some 23) rfl rfl hHeld (Or.inl ⟨by rfl, by rintro w' ⟨s0, s1, s2, s3, s4, s5, s6, s7⟩; go_simp; with_reducible rfl⟩) ?_
          refine p1 3 (some 25) ?_
          refine t1 4 (some 26) rfl rfl hHeld (Or.inl ⟨by rfl, by rintro w' ⟨s0, s1, s2, s3, s4, s5, s6, s7⟩; go_simp; with_reducible rfl⟩) ?_
          refine t1 6 (some 28) rfl rfl hHeld (Or.inl ⟨by rfl, by rintro w' ⟨s0, s1, s2, s3, s4, s5, s6, s7⟩; go_simp; with_reducible rfl⟩) ?_
          refine p1 8 (some 30) ?_
          refine t1 9 (some 31) rfl rfl hHeld (Or.inl ⟨by rfl, by rintro w' ⟨s0, s1, s2, s3, s4, s5, s6, s7⟩; go_simp; with_reducible rfl⟩) ?_
          refine join_ (σ := Nat × Nat) 2 #[true, true, true, true, true, true, true, true, true, true, true, true, false, false] (fun s_ => [(6, .pointer (some ⟨s_.1, 0, none⟩)), (7, .pointer (some ⟨s_.2, 0, none⟩))]) (fun s_ w' => (w'.cell? ⟨gb338, 0, none⟩ = some (.slice (some ad340) l0_0.length c0_0) ∧ w'.cell? ⟨gb339, 0, none⟩ = some (.slice (some ad341) l1_0.length c1_0) ∧ w'.cell? (ad340.add ((x5_1).toNat * 3)) = some (.int .i64 ((rd_T59 l0_0 x5_1).f0)) ∧ w'.cell? ⟨(ad340.add ((x5_1).toNat * 3)).block, (ad340.add ((x5_1).toNat * 3)).off + 1, none⟩ = some (.string ((rd_T59 l0_0 x5_1).f1)) ∧ w'.cell? ⟨(ad340.add ((x5_1).toNat * 3)).block, (ad340.add ((x5_1).toNat * 3)).off + 2, none⟩ = some (.slice A340_2 ((rd_T59 l0_0 x5_1).f2).length c340_2) ∧ w'.cell? (ad341.add ((x5_1).toNat * 3)) = some (.int .i64 ((rd_T59 l1_0 x5_1).f0)) ∧ w'.cell? ⟨(ad341.add ((x5_1).toNat * 3)).block, (ad341.add ((x5_1).toNat * 3)).off + 1, none⟩ = some (.string ((rd_T59 l1_0 x5_1).f1)) ∧ w'.cell? ⟨(ad341.add ((x5_1).toNat * 3)).block, (ad341.add ((x5_1).toNat * 3)).off + 2, none⟩ = some (.slice A341_2 ((rd_T59 l1_0 x5_1).f2).length c341_2)) ∧ (w'.heap[gb338]? = some (.cells #[.slice (some ad340) l0_0.length c0_0] 24 (0, 0))) ∧ (w'.heap[gb339]? = some (.cells #[.slice (some ad341) l1_0.length c1_0] 24 (0, 0))) ∧ (w'.heap[s_.1]? = some (.cells #[.int .i64 0, .string (⟨#[]⟩ : ByteArray), .slice none 0 0] 59 (0, 0))) ∧ (w'.heap[s_.2]? = some (.cells #[.int .i64 0, .string (⟨#[]⟩ : ByteArray), .slice none 0 0] 59 (0, 0))) ∧ (w.heap.size ≤ s_.1) ∧ (w.heap.size ≤ s_.1) ∧ (gb338 ≠ s_.1) ∧ (s_.1 ≠ gb338) ∧ (gb339 ≠ s_.1) ∧ (s_.1 ≠ gb339) ∧ (s_.2 ≠ s_.1) ∧ (s_.1 ≠ s_.2) ∧ (w.heap.size ≤ s_.2) ∧ (w.heap.size ≤ s_.2) ∧ (gb338 ≠ s_.2) ∧ (s_.2 ≠ gb338) ∧ (gb339 ≠ s_.2) ∧ (s_.2 ≠ gb339) ∧ (Below w.heap.size w w')) ?_ ?_
          rotate_left
          ·
           intro hCont
           refine two_ (i := 10) (j := 11) (Ni := some 6) (Nj := some 7) #[true, true, true, true, true, true, true, true, true, true, true, false, false, false] #[true, true, true, true, true, true, true, true, true, true, false, true, false, false] rfl rfl rfl rfl (two_of HT_.out (by kernel_rfl)) (by decide) (by decide) (fun K hK => ?_) (fun K hK => ?_)
           ·
            skip
            refine box_step ?hg (N := 6) ?hd (cs := #[.int .i64 0, .string (⟨#[]⟩ : ByteArray), .slice none 0 0]) (t := 59) ?hr ?_; (case hd => rfl); (case hg => rfl); (case hr => first | (go_simp; done) | (go_simp; rfl))
            intro gb342 hg w38 hbox hb
            have BK342 := Aside0.mk (hbox)
            have GW342 := gw hg bl
            have GE342 := gw hg bl
            replace HB := Aside0.mk (below_step bl hb)
            have NB338_342 := Aside0.mk ((by rw [hg]; exact Nat.ne_of_lt (blk_lt (g := gb338) (o := .cells #[.slice (some ad340) l0_0.length c0_0] 24 (0, 0)) (uB BK338.out)) : gb338 ≠ gb342))
            have NB342_338 := Aside0.mk ((by rw [hg]; exact Nat.ne_of_gt (blk_lt (g := gb338) (o := .cells #[.slice (some ad340) l0_0.length c0_0] 24 (0, 0)) (uB BK338.out)) : gb342 ≠ gb338))
            replace BK338 := cB BK338 hb
            have NB339_342 := Aside0.mk ((by rw [hg]; exact Nat.ne_of_lt (blk_lt (g := gb339) (o := .cells #[.slice (some ad341) l1_0.length c1_0] 24 (0, 0)) (uB BK339.out)) : gb339 ≠ gb342))
            have NB342_339 := Aside0.mk ((by rw [hg]; exact Nat.ne_of_gt (blk_lt (g := gb339) (o := .cells #[.slice (some ad341) l1_0.length c1_0] 24 (0, 0)) (uB BK339.out)) : gb342 ≠ gb339))
            replace BK339 := cB BK339 hb
            clear hb hbox hg
            refine hK.out _ _ ⟨(blk_cell BK338.out 0).trans rfl, (blk_cell BK339.out 0).trans rfl, (kc HB hw340_0), (kc HB hw340_1), (kc HB hw340_2), (kc HB hw341_0), (kc HB hw341_1), (kc HB hw341_2)⟩ (fun hHeld => ?_)
            clear hK K
            refine norm_ (a' := ?_) ?_ ?_
            rotate_left
            ·
             show Act.put _ (some 6) _ = _
             simp only [Act.put, List.setIfInBounds_toArray, List.set_cons_zero, List.set_cons_succ, i64_w, i32_w]
             rfl
            refine o1 11 (some 7) rfl rfl (fun K hK => ?_)
            refine box_step ?hg (N := 7) ?hd (cs := #[.int .i64 0, .string (⟨#[]⟩ : ByteArray), .slice none 0 0]) (t := 59) ?hr ?_; (case hd => rfl); (case hg => rfl); (case hr => first | (go_simp; done) | (go_simp; rfl))
            intro gb343 hg w39 hbox hb
            have BK343 := Aside0.mk (hbox)
            have GW343 := gw hg bl
            have GE343 := gw hg bl
            replace HB := Aside0.mk (below_step bl hb)
            have NB338_343 := Aside0.mk ((by rw [hg]; exact Nat.ne_of_lt (blk_lt (g := gb338) (o := .cells #[.slice (some ad340) l0_0.length c0_0] 24 (0, 0)) (uB BK338.out)) : gb338 ≠ gb343))
            have NB343_338 := Aside0.mk ((by rw [hg]; exact Nat.ne_of_gt (blk_lt (g := gb338) (o := .cells #[.slice (some ad340) l0_0.length c0_0] 24 (0, 0)) (uB BK338.out)) : gb343 ≠ gb338))
            replace BK338 := cB BK338 hb
            have NB339_343 := Aside0.mk ((by rw [hg]; exact Nat.ne_of_lt (blk_lt (g := gb339) (o := .cells #[.slice (some ad341) l1_0.length c1_0] 24 (0, 0)) (uB BK339.out)) : gb339 ≠ gb343))
            have NB343_339 := Aside0.mk ((by rw [hg]; exact Nat.ne_of_gt (blk_lt (g := gb339) (o := .cells #[.slice (some ad341) l1_0.length c1_0] 24 (0, 0)) (uB BK339.out)) : gb343 ≠ gb339))
            replace BK339 := cB BK339 hb
            have NB342_343 := Aside0.mk ((by rw [hg]; exact Nat.ne_of_lt (blk_lt (g := gb342) (o := .cells #[.int .i64 0, .string (⟨#[]⟩ : ByteArray), .slice none 0 0] 59 (0, 0)) (uB BK342.out)) : gb342 ≠ gb343))
            have NB343_342 := Aside0.mk ((by rw [hg]; exact Nat.ne_of_gt (blk_lt (g := gb342) (o := .cells #[.int .i64 0, .string (⟨#[]⟩ : ByteArray), .slice none 0 0] 59 (0, 0)) (uB BK342.out)) : gb343 ≠ gb342))
            replace BK342 := cB BK342 hb
            clear hb hbox hg
            refine hK.out _ _ ⟨(blk_cell BK338.out 0).trans rfl, (blk_cell BK339.out 0).trans rfl, (kc HB hw340_0), (kc HB hw340_1), (kc HB hw340_2), (kc HB hw341_0), (kc HB hw341_1), (kc HB hw341_2)⟩ (fun hHeld => ?_)
            clear hK K
            refine norm_ (a' := ?_) ?_ ?_
            rotate_left
            ·
             show Act.put _ (some 7) _ = _
             simp only [Act.put, List.setIfInBounds_toArray, List.set_cons_zero, List.set_cons_succ, i64_w, i32_w]
             rfl
            exact norm_ (by simp only [putAll, Act.put, List.setIfInBounds_toArray, List.set_cons_zero, List.set_cons_succ]) (hCont (gb342, gb343) _ ⟨hHeld, (uB BK338.out), (uB BK339.out), (uB BK342.out), (uB BK343.out), GW342.out, GE342.out, NB338_342.out, NB342_338.out, NB339_342.out, NB342_339.out, NB343_342.out, NB342_343.out, GW343.out, GE343.out, NB338_343.out, NB343_338.out, NB339_343.out, NB343_339.out, bl⟩)
           ·
            skip
            refine box_step ?hg (N := 7) ?hd (cs := #[.int .i64 0, .string (⟨#[]⟩ : ByteArray), .slice none 0 0]) (t := 59) ?hr ?_; (case hd => rfl); (case hg => rfl); (case hr => first | (go_simp; done) | (go_simp; rfl))
            intro gb343 hg w38 hbox hb
            have BK343 := Aside0.mk (hbox)
            have GW343 := gw hg bl
            have GE343 := gw hg bl
            replace HB := Aside0.mk (below_step bl hb)
            have NB338_343 := Aside0.mk ((by rw [hg]; exact Nat.ne_of_lt (blk_lt (g := gb338) (o := .cells #[.slice (some ad340) l0_0.length c0_0] 24 (0, 0)) (uB BK338.out)) : gb338 ≠ gb343))
            have NB343_338 := Aside0.mk ((by rw [hg]; exact Nat.ne_of_gt (blk_lt (g := gb338) (o := .cells #[.slice (some ad340) l0_0.length c0_0] 24 (0, 0)) (uB BK338.out)) : gb343 ≠ gb338))
            replace BK338 := cB BK338 hb
            have NB339_343 := Aside0.mk ((by rw [hg]; exact Nat.ne_of_lt (blk_lt (g := gb339) (o := .cells #[.slice (some ad341) l1_0.length c1_0] 24 (0, 0)) (uB BK339.out)) : gb339 ≠ gb343))
            have NB343_339 := Aside0.mk ((by rw [hg]; exact Nat.ne_of_gt (blk_lt (g := gb339) (o := .cells #[.slice (some ad341) l1_0.length c1_0] 24 (0, 0)) (uB BK339.out)) : gb343 ≠ gb339))
            replace BK339 := cB BK339 hb
            clear hb hbox hg
            refine hK.out _ _ ⟨(blk_cell BK338.out 0).trans rfl, (blk_cell BK339.out 0).trans rfl, (kc HB hw340_0), (kc HB hw340_1), (kc HB hw340_2), (kc HB hw341_0), (kc HB hw341_1), (kc HB hw341_2)⟩ (fun hHeld => ?_)
            clear hK K
            refine norm_ (a' := ?_) ?_ ?_
            rotate_left
            ·
             show Act.put _ (some 7) _ = _
             simp only [Act.put, List.setIfInBounds_toArray, List.set_cons_zero, List.set_cons_succ, i64_w, i32_w]
             rfl
            refine o1 10 (some 6) rfl rfl (fun K hK => ?_)
            refine box_step ?hg (N := 6) ?hd (cs := #[.int .i64 0, .string (⟨#[]⟩ : ByteArray), .slice none 0 0]) (t := 59) ?hr ?_; (case hd => rfl); (case hg => rfl); (case hr => first | (go_simp; done) | (go_simp; rfl))
            intro gb342 hg w39 hbox hb
            have BK342 := Aside0.mk (hbox)
            have GW342 := gw hg bl
            have GE342 := gw hg bl
            replace HB := Aside0.mk (below_step bl hb)
            have NB338_342 := Aside0.mk ((by rw [hg]; exact Nat.ne_of_lt (blk_lt (g := gb338) (o := .cells #[.slice (some ad340) l0_0.length c0_0] 24 (0, 0)) (uB BK338.out)) : gb338 ≠ gb342))
            have NB342_338 := Aside0.mk ((by rw [hg]; exact Nat.ne_of_gt (blk_lt (g := gb338) (o := .cells #[.slice (some ad340) l0_0.length c0_0] 24 (0, 0)) (uB BK338.out)) : gb342 ≠ gb338))
            replace BK338 := cB BK338 hb
            have NB339_342 := Aside0.mk ((by rw [hg]; exact Nat.ne_of_lt (blk_lt (g := gb339) (o := .cells #[.slice (some ad341) l1_0.length c1_0] 24 (0, 0)) (uB BK339.out)) : gb339 ≠ gb342))
            have NB342_339 := Aside0.mk ((by rw [hg]; exact Nat.ne_of_gt (blk_lt (g := gb339) (o := .cells #[.slice (some ad341) l1_0.length c1_0] 24 (0, 0)) (uB BK339.out)) : gb342 ≠ gb339))
            replace BK339 := cB BK339 hb
            have NB343_342 := Aside0.mk ((by rw [hg]; exact Nat.ne_of_lt (blk_lt (g := gb343) (o := .cells #[.int .i64 0, .string (⟨#[]⟩ : ByteArray), .slice none 0 0] 59 (0, 0)) (uB BK343.out)) : gb343 ≠ gb342))
            have NB342_343 := Aside0.mk ((by rw [hg]; exact Nat.ne_of_gt (blk_lt (g := gb343) (o := .cells #[.int .i64 0, .string (⟨#[]⟩ : ByteArray), .slice none 0 0] 59 (0, 0)) (uB BK343.out)) : gb342 ≠ gb343))
            replace BK343 := cB BK343 hb
            clear hb hbox hg
            refine hK.out _ _ ⟨(blk_cell BK338.out 0).trans rfl, (blk_cell BK339.out 0).trans rfl, (kc HB hw340_0), (kc HB hw340_1), (kc HB hw340_2), (kc HB hw341_0), (kc HB hw341_1), (kc HB hw341_2)⟩ (fun hHeld => ?_)
            clear hK K
            refine norm_ (a' := ?_) ?_ ?_
            rotate_left
            ·
             show Act.put _ (some 6) _ = _
             simp only [Act.put, List.setIfInBounds_toArray, List.set_cons_zero, List.set_cons_succ, i64_w, i32_w]
             rfl
            exact norm_ (by simp only [putAll, Act.put, List.setIfInBounds_toArray, List.set_cons_zero, List.set_cons_succ]) (hCont (gb342, gb343) _ ⟨hHeld, (uB BK338.out), (uB BK339.out), (uB BK342.out), (uB BK343.out), GW342.out, GE342.out, NB338_342.out, NB342_338.out, NB339_342.out, NB342_339.out, NB343_342.out, NB342_343.out, GW343.out, GE343.out, NB338_343.out, NB343_338.out, NB339_343.out, NB343_339.out, bl⟩)
          rintro ⟨gb342, gb343⟩ w40 ⟨hS_, h0_, h1_, h2_, h3_, h4_, h5_, h6_, h7_, h8_, h9_, h10_, h11_, h12_, h13_, h14_, h15_, h16_, h17_, h18_⟩
          have n0_ : Aside0 (w40.heap[gb338]? = some (.cells #[.slice (some ad340) l0_0.length c0_0] 24 (0, 0))) := ⟨h0_⟩
          have n1_ : Aside0 (w40.heap[gb339]? = some (.cells #[.slice (some ad341) l1_0.length c1_0] 24 (0, 0))) := ⟨h1_⟩
          have n2_ : Aside0 (w40.heap[gb342]? = some (.cells #[.int .i64 0, .string (⟨#[]⟩ : ByteArray), .slice none 0 0] 59 (0, 0))) := ⟨h2_⟩
          have n3_ : Aside0 (w40.heap[gb343]? = some (.cells #[.int .i64 0, .string (⟨#[]⟩ : ByteArray), .slice none 0 0] 59 (0, 0))) := ⟨h3_⟩
          have n4_ : Aside0 (w.heap.size ≤ gb342) := ⟨h4_⟩
          have n5_ : Aside0 (w.heap.size ≤ gb342) := ⟨h5_⟩
          have n6_ : Aside0 (gb338 ≠ gb342) := ⟨h6_⟩
          have n7_ : Aside0 (gb342 ≠ gb338) := ⟨h7_⟩
          have n8_ : Aside0 (gb339 ≠ gb342) := ⟨h8_⟩
          have n9_ : Aside0 (gb342 ≠ gb339) := ⟨h9_⟩
          have n10_ : Aside0 (gb343 ≠ gb342) := ⟨h10_⟩
          have n11_ : Aside0 (gb342 ≠ gb343) := ⟨h11_⟩
          have n12_ : Aside0 (w.heap.size ≤ gb343) := ⟨h12_⟩
          have n13_ : Aside0 (w.heap.size ≤ gb343) := ⟨h13_⟩
          have n14_ : Aside0 (gb338 ≠ gb343) := ⟨h14_⟩
          have n15_ : Aside0 (gb343 ≠ gb338) := ⟨h15_⟩
          have n16_ : Aside0 (gb339 ≠ gb343) := ⟨h16_⟩
          have n17_ : Aside0 (gb343 ≠ gb339) := ⟨h17_⟩
          have n18_ : Aside0 (Below w.heap.size w w40) := ⟨h18_⟩
          clear BK338
          clear BK339
          clear HB
          clear h0_ h1_ h2_ h3_ h4_ h5_ h6_ h7_ h8_ h9_ h10_ h11_ h12_ h13_ h14_ h15_ h16_ h17_ h18_
          have BK338 := n0_
          have BK339 := n1_
          have BK342 := n2_
          have BK343 := n3_
          have GW342 := n4_
          have GE342 := n5_
          have NB338_342 := n6_
          have NB342_338 := n7_
          have NB339_342 := n8_
          have NB342_339 := n9_
          have NB343_342 := n10_
          have NB342_343 := n11_
          have GW343 := n12_
          have GE343 := n13_
          have NB338_343 := n14_
          have NB343_338 := n15_
          have NB339_343 := n16_
          have NB343_339 := n17_
          have HB := n18_
          clear n0_ n1_ n2_ n3_ n4_ n5_ n6_ n7_ n8_ n9_ n10_ n11_ n12_ n13_ n14_ n15_ n16_ n17_ n18_
          have hHeld : w40.cell? ⟨gb338, 0, none⟩ = some (.slice (some ad340) l0_0.length c0_0) ∧ w40.cell? ⟨gb339, 0, none⟩ = some (.slice (some ad341) l1_0.length c1_0) ∧ w40.cell? (ad340.add ((x5_1).toNat * 3)) = some (.int .i64 ((rd_T59 l0_0 x5_1).f0)) ∧ w40.cell? ⟨(ad340.add ((x5_1).toNat * 3)).block, (ad340.add ((x5_1).toNat * 3)).off + 1, none⟩ = some (.string ((rd_T59 l0_0 x5_1).f1)) ∧ w40.cell? ⟨(ad340.add ((x5_1).toNat * 3)).block, (ad340.add ((x5_1).toNat * 3)).off + 2, none⟩ = some (.slice A340_2 ((rd_T59 l0_0 x5_1).f2).length c340_2) ∧ w40.cell? (ad341.add ((x5_1).toNat * 3)) = some (.int .i64 ((rd_T59 l1_0 x5_1).f0)) ∧ w40.cell? ⟨(ad341.add ((x5_1).toNat * 3)).block, (ad341.add ((x5_1).toNat * 3)).off + 1, none⟩ = some (.string ((rd_T59 l1_0 x5_1).f1)) ∧ w40.cell? ⟨(ad341.add ((x5_1).toNat * 3)).block, (ad341.add ((x5_1).toNat * 3)).off + 2, none⟩ = some (.slice A341_2 ((rd_T59 l1_0 x5_1).f2).length c341_2) := hS_
          refine norm_ (a' := ?_) ?_ ?_
          rotate_left
          ·
           simp only [putAll, Act.put, List.setIfInBounds_toArray, List.set_cons_zero, List.set_cons_succ]
           rfl
          refine o1 12 none rfl rfl (fun K hK => ?_)
          have hs41 : w40.cell? ⟨gb342, 0, none⟩ = some (.int .i64 0) := (blk_cell BK342.out 0).trans rfl
          have hfs41 := blk_frozen BK342.out 0
          have hns41_0 := NB338_342.out
          have hns41_1 := NB339_342.out
          have hns41_3 := NB343_342.out
          have hms41_0 := NB342_338.out
          have hms41_1 := NB342_339.out
          have hms41_3 := NB342_343.out
          have hs42 : w40.cell? ⟨gb342, 1, none⟩ = some (.string (⟨#[]⟩ : ByteArray)) := (blk_cell BK342.out 1).trans rfl
          have hfs42 := blk_frozen BK342.out 1
          have hns42_0 := NB338_342.out
          have hns42_1 := NB339_342.out
          have hns42_3 := NB343_342.out
          have hms42_0 := NB342_338.out
          have hms42_1 := NB342_339.out
          have hms42_3 := NB342_343.out
          have hs43 : w40.cell? ⟨gb342, 2, none⟩ = some (.slice none 0 0) := (blk_cell BK342.out 2).trans rfl
          have hfs43 := blk_frozen BK342.out 2
          have hns43_0 := NB338_342.out
          have hns43_1 := NB339_342.out
          have hns43_3 := NB343_342.out
          have hms43_0 := NB342_338.out
          have hms43_1 := NB342_339.out
          have hms43_3 := NB342_343.out
          refine skip_ (w1 := ?_) (by rfl) rfl ?_ ?_
          rotate_left
          ·
           go_simp
           rfl
          refine hK.out _ _ ⟨(ct NB338_342.out ((ct NB338_342.out ((ct NB338_342.out (hHeld.1)))))), (ct NB339_342.out ((ct NB339_342.out ((ct NB339_342.out (hHeld.2.1)))))), (ct (nb hw340_0 GW342) ((ct (nb hw340_0 GW342) ((ct (nb hw340_0 GW342) (hHeld.2.2.1)))))), (ct (nb hw340_1 GW342) ((ct (nb hw340_1 GW342) ((ct (nb hw340_1 GW342) (hHeld.2.2.2.1)))))), (ct (nb hw340_2 GW342) ((ct (nb hw340_2 GW342) ((ct (nb hw340_2 GW342) (hHeld.2.2.2.2.1)))))), (ct (nb hw341_0 GW342) ((ct (nb hw341_0 GW342) ((ct (nb hw341_0 GW342) (hHeld.2.2.2.2.2.1)))))), (ct (nb hw341_1 GW342) ((ct (nb hw341_1 GW342) ((ct (nb hw341_1 GW342) (hHeld.2.2.2.2.2.2.1)))))), (ct (nb hw341_2 GW342) ((ct (nb hw341_2 GW342) ((ct (nb hw341_2 GW342) (hHeld.2.2.2.2.2.2.2))))))⟩ (fun hHeld => ?_)
          clear hK K
          refine o1 13 none rfl rfl (fun K hK => ?_)
          have hs44 : w40.cell? ⟨gb343, 0, none⟩ = some (.int .i64 0) := (blk_cell BK343.out 0).trans rfl
          have hfs44 := blk_frozen BK343.out 0
          have hns44_0 := NB338_343.out
          have hns44_1 := NB339_343.out
          have hns44_2 := NB342_343.out
          have hms44_0 := NB343_338.out
          have hms44_1 := NB343_339.out
          have hms44_2 := NB343_342.out
          have hs45 : w40.cell? ⟨gb343, 1, none⟩ = some (.string (⟨#[]⟩ : ByteArray)) := (blk_cell BK343.out 1).trans rfl
          have hfs45 := blk_frozen BK343.out 1
          have hns45_0 := NB338_343.out
          have hns45_1 := NB339_343.out
          have hns45_2 := NB342_343.out
          have hms45_0 := NB343_338.out
          have hms45_1 := NB343_339.out
          have hms45_2 := NB343_342.out
          have hs46 : w40.cell? ⟨gb343, 2, none⟩ = some (.slice none 0 0) := (blk_cell BK343.out 2).trans rfl
          have hfs46 := blk_frozen BK343.out 2
          have hns46_0 := NB338_343.out
          have hns46_1 := NB339_343.out
          have hns46_2 := NB342_343.out
          have hms46_0 := NB343_338.out
          have hms46_1 := NB343_339.out
          have hms46_2 := NB343_342.out
          refine skip_ (w1 := ?_) (by rfl) rfl ?_ ?_
          rotate_left
          ·
           go_simp
           rfl
          refine hK.out _ _ ⟨(ct NB338_343.out ((ct NB338_343.out ((ct NB338_343.out (hHeld.1)))))), (ct NB339_343.out ((ct NB339_343.out ((ct NB339_343.out (hHeld.2.1)))))), (ct (nb hw340_0 GW343) ((ct (nb hw340_0 GW343) ((ct (nb hw340_0 GW343) (hHeld.2.2.1)))))), (ct (nb hw340_1 GW343) ((ct (nb hw340_1 GW343) ((ct (nb hw340_1 GW343) (hHeld.2.2.2.1)))))), (ct (nb hw340_2 GW343) ((ct (nb hw340_2 GW343) ((ct (nb hw340_2 GW343) (hHeld.2.2.2.2.1)))))), (ct (nb hw341_0 GW343) ((ct (nb hw341_0 GW343) ((ct (nb hw341_0 GW343) (hHeld.2.2.2.2.2.1)))))), (ct (nb hw341_1 GW343) ((ct (nb hw341_1 GW343) ((ct (nb hw341_1 GW343) (hHeld.2.2.2.2.2.2.1)))))), (ct (nb hw341_2 GW343) ((ct (nb hw341_2 GW343) ((ct (nb hw341_2 GW343) (hHeld.2.2.2.2.2.2.2))))))⟩ (fun hHeld => ?_)
          clear hK K
          refine done_ (done_of HT_.out (by kernel_rfl)) ?_
          have hnb47 := NB342_338.out
          have hnc47 := NB338_342.out
          have hnb48 := NB342_339.out
          have hnc48 := NB339_342.out
          have hnb49 := NB342_343.out
          have hnc49 := NB343_342.out
          obtain ⟨hcz50_0, hcz50_1, hcz50_2, hfz50_0, hfz50_1, hfz50_2⟩ := z3 BK342
          have hnb51 := NB343_338.out
          have hnc51 := NB338_343.out
          have hnb52 := NB343_339.out
          have hnc52 := NB339_343.out
          obtain ⟨hcz53_0, hcz53_1, hcz53_2, hfz53_0, hfz53_1, hfz53_2⟩ := z3 BK343
          try go_wp2_with (first | (go_at_call 32; (with_reducible refine (r10_Same.calls k1 _ _ ((rd_T59 l0_0 x5_1).f2) _ _ ((rd_T59 l1_0 x5_1).f2) false _ ?side1 ?side2 ?side3 ?side4 A14.out).mono ?_); (case side1 => exact Kd.C_below HR340_2.out bl); (case side2 => exact HC340_2.out); (case side3 => exact Kd.C_below HR341_2.out bl); (case side4 => exact HC341_2.out); rintro e w' ⟨rfl, ⟨nd, rfl⟩⟩))
          go_ret
          exact ⟨re_, bl⟩
        ·
         rw [if_neg c13] at H
         have c13b0 : (((rd_T59 l0_0 x5_1).f1).toList == ((rd_T59 l1_0 x5_1).f1).toList) = false := beq_eq_false_iff_ne.mpr c13
         have c13b1 : (((rd_T59 l0_0 x5_1).f1).toList != ((rd_T59 l1_0 x5_1).f1).toList) = true := bne_iff_ne.mpr c13
         obtain rfl := Option.some.inj H
         have hnb54 := NB338_339.out
         have hnc54 := NB339_338.out
         obtain ⟨hcz55_0, hfz55_0⟩ := z1 BK338
         try go_wp2
         replace BK338 := Aside0.mk (blk_drew BK338.out)
         replace BK339 := Aside0.mk (blk_drew BK339.out)
         replace HB := Aside0.mk (below_drew1 HB.out)
         have p340 : 0 ≤ (x5_1 : Int) := od
         have q340 : x5_1 < (l0_0.length : Int) := od
         obtain ⟨ad340, A340_2, c340_2, e340, hx340_0, hx340_1, hx340_2, hl340_2, hi340_2⟩ := at_T59 HR0_0.out x5_1 p340 q340
         have hw340_2 := hx340_2
         have hw340_1 := hx340_1
         have hw340_0 := hx340_0
         cases e340
         replace hx340_0 := kc HB hx340_0
         replace hx340_1 := kc HB hx340_1
         replace hx340_2 := kc HB hx340_2
         have HR340_2 := Aside0.mk hi340_2
         have HC340_2 := Aside0.mk hl340_2
         clear hi340_2 hl340_2
         replace p340 := eq_true p340
         replace q340 := eq_true q340
         have p341 : 0 ≤ (x5_1 : Int) := od
         have q341 : x5_1 < (l1_0.length : Int) := od
         obtain ⟨ad341, A341_2, c341_2, e341, hx341_0, hx341_1, hx341_2, hl341_2, hi341_2⟩ := at_T59 HR1_0.out x5_1 p341 q341
         have hw341_2 := hx341_2
         have hw341_1 := hx341_1
         have hw341_0 := hx341_0
         cases e341
         replace hx341_0 := kc HB hx341_0
         replace hx341_1 := kc HB hx341_1
         replace hx341_2 := kc HB hx341_2
         have HR341_2 := Aside0.mk hi341_2
         have HC341_2 := Aside0.mk hl341_2
         clear hi341_2 hl341_2
         replace p341 := eq_true p341
         replace q341 := eq_true q341
         refine start_ (n := 14) (S := fun w' => w'.cell? ⟨gb338, 0, none⟩ = some (.slice (some ad340) l0_0.length c0_0) ∧ w'.cell? ⟨gb339, 0, none⟩ = some (.slice (some ad341) l1_0.length c1_0) ∧ w'.cell? (ad340.add ((x5_1).toNat * 3)) = some (.int .i64 ((rd_T59 l0_0 x5_1).f0)) ∧ w'.cell? ⟨(ad340.add ((x5_1).toNat * 3)).block, (ad340.add ((x5_1).toNat * 3)).off + 1, none⟩ = some (.string ((rd_T59 l0_0 x5_1).f1)) ∧ w'.cell? ⟨(ad340.add ((x5_1).toNat * 3)).block, (ad340.add ((x5_1).toNat * 3)).off + 2, none⟩ = some (.slice A340_2 ((rd_T59 l0_0 x5_1).f2).length c340_2) ∧ w'.cell? (ad341.add ((x5_1).toNat * 3)) = some (.int .i64 ((rd_T59 l1_0 x5_1).f0)) ∧ w'.cell? ⟨(ad341.add ((x5_1).toNat * 3)).block, (ad341.add ((x5_1).toNat * 3)).off + 1, none⟩ = some (.string ((rd_T59 l1_0 x5_1).f1)) ∧ w'.cell? ⟨(ad341.add ((x5_1).toNat * 3)).block, (ad341.add ((x5_1).toNat * 3)).off + 2, none⟩ = some (.slice A341_2 ((rd_T59 l1_0 x5_1).f2).length c341_2)) (ds := []) _ (by kernel_rfl) rfl rfl ⟨(blk_cell BK338.out 0).trans rfl, (blk_cell BK339.out 0).trans rfl, (kc HB hw340_0), (kc HB hw340_1), (kc HB hw340_2), (kc HB hw341_0), (kc HB hw341_1), (kc HB hw341_2)⟩ (fun hHeld => ?_); refine with_tabW r11_Same.tab6 r11_Same.bits6 (fun HT_ HW_ => ?_)
         generalize wr.drew = w56 at BK338 BK339 HB HR340_2 HR341_2 hx340_0 hx340_1 hx340_2 hx341_0 hx341_1 hx341_2 hHeld ⊢
         refine p1 0 (some 22) ?_
         refine p1 2 (some 24) ?_
         refine p1 5 (some 27) ?_
         refine p1 7 (some 29) ?_
         refine t1 1 (some 23) rfl rfl hHeld (Or.inl ⟨by rfl, by rintro w' ⟨s0, s1, s2, s3, s4, s5, s6, s7⟩; go_simp; with_reducible rfl⟩) ?_
         refine p1 3 (some 25) ?_
         refine t1 4 (some 26) rfl rfl hHeld (Or.inl ⟨by rfl, by rintro w' ⟨s0, s1, s2, s3, s4, s5, s6, s7⟩; go_simp; with_reducible rfl⟩) ?_
         refine t1 6 (some 28) rfl rfl hHeld (Or.inl ⟨by rfl, by rintro w' ⟨s0, s1, s2, s3, s4, s5, s6, s7⟩; go_simp; with_reducible rfl⟩) ?_
         refine p1 8 (some 30) ?_
         refine t1 9 (some 31) rfl rfl hHeld (Or.inl ⟨by rfl, by rintro w' ⟨s0, s1, s2, s3, s4, s5, s6, s7⟩; go_simp; with_reducible rfl⟩) ?_
         refine join_ (σ := Nat × Nat) 2 #[true, true, true, true, true, true, true, true, true, true, true, true, false, false] (fun s_ => [(6, .pointer (some ⟨s_.1, 0, none⟩)), (7, .pointer (some ⟨s_.2, 0, none⟩))]) (fun s_ w' => (w'.cell? ⟨gb338, 0, none⟩ = some (.slice (some ad340) l0_0.length c0_0) ∧ w'.cell? ⟨gb339, 0, none⟩ = some (.slice (some ad341) l1_0.length c1_0) ∧ w'.cell? (ad340.add ((x5_1).toNat * 3)) = some (.int .i64 ((rd_T59 l0_0 x5_1).f0)) ∧ w'.cell? ⟨(ad340.add ((x5_1).toNat * 3)).block, (ad340.add ((x5_1).toNat * 3)).off + 1, none⟩ = some (.string ((rd_T59 l0_0 x5_1).f1)) ∧ w'.cell? ⟨(ad340.add ((x5_1).toNat * 3)).block, (ad340.add ((x5_1).toNat * 3)).off + 2, none⟩ = some (.slice A340_2 ((rd_T59 l0_0 x5_1).f2).length c340_2) ∧ w'.cell? (ad341.add ((x5_1).toNat * 3)) = some (.int .i64 ((rd_T59 l1_0 x5_1).f0)) ∧ w'.cell? ⟨(ad341.add ((x5_1).toNat * 3)).block, (ad341.add ((x5_1).toNat * 3)).off + 1, none⟩ = some (.string ((rd_T59 l1_0 x5_1).f1)) ∧ w'.cell? ⟨(ad341.add ((x5_1).toNat * 3)).block, (ad341.add ((x5_1).toNat * 3)).off + 2, none⟩ = some (.slice A341_2 ((rd_T59 l1_0 x5_1).f2).length c341_2)) ∧ (w'.heap[gb338]? = some (.cells #[.slice (some ad340) l0_0.length c0_0] 24 (0, 0))) ∧ (w'.heap[gb339]? = some (.cells #[.slice (some ad341) l1_0.length c1_0] 24 (0, 0))) ∧ (w'.heap[s_.1]? = some (.cells #[.int .i64 0, .string (⟨#[]⟩ : ByteArray), .slice none 0 0] 59 (0, 0))) ∧ (w'.heap[s_.2]? = some (.cells #[.int .i64 0, .string (⟨#[]⟩ : ByteArray), .slice none 0 0] 59 (0, 0))) ∧ (w.heap.size ≤ s_.1) ∧ (w.heap.size ≤ s_.1) ∧ (gb338 ≠ s_.1) ∧ (s_.1 ≠ gb338) ∧ (gb339 ≠ s_.1) ∧ (s_.1 ≠ gb339) ∧ (s_.2 ≠ s_.1) ∧ (s_.1 ≠ s_.2) ∧ (w.heap.size ≤ s_.2) ∧ (w.heap.size ≤ s_.2) ∧ (gb338 ≠ s_.2) ∧ (s_.2 ≠ gb338) ∧ (gb339 ≠ s_.2) ∧ (s_.2 ≠ gb339) ∧ (Below w.heap.size w w')) ?_ ?_
         rotate_left
         ·
          intro hCont
          refine two_ (i := 10) (j := 11) (Ni := some 6) (Nj := some 7) #[true, true, true, true, true, true, true, true, true, true, true, false, false, false] #[true, true, true, true, true, true, true, true, true, true, false, true, false, false] rfl rfl rfl rfl (two_of HT_.out (by kernel_rfl)) (by decide) (by decide) (fun K hK => ?_) (fun K hK => ?_)
          ·
           skip
           refine box_step ?hg (N := 6) ?hd (cs := #[.int .i64 0, .string (⟨#[]⟩ : ByteArray), .slice none 0 0]) (t := 59) ?hr ?_; (case hd => rfl); (case hg => rfl); (case hr => first | (go_simp; done) | (go_simp; rfl))
           intro gb342 hg w57 hbox hb
           have BK342 := Aside0.mk (hbox)
           have GW342 := gw hg bl
           have GE342 := gw hg bl
           replace HB := Aside0.mk (below_step bl hb)
           have NB338_342 := Aside0.mk ((by rw [hg]; exact Nat.ne_of_lt (blk_lt (g := gb338) (o := .cells #[.slice (some ad340) l0_0.length c0_0] 24 (0, 0)) (uB BK338.out)) : gb338 ≠ gb342))
           have NB342_338 := Aside0.mk ((by rw [hg]; exact Nat.ne_of_gt (blk_lt (g := gb338) (o := .cells #[.slice (some ad340) l0_0.length c0_0] 24 (0, 0)) (uB BK338.out)) : gb342 ≠ gb338))
           replace BK338 := cB BK338 hb
           have NB339_342 := Aside0.mk ((by rw [hg]; exact Nat.ne_of_lt (blk_lt (g := gb339) (o := .cells #[.slice (some ad341) l1_0.length c1_0] 24 (0, 0)) (uB BK339.out)) : gb339 ≠ gb342))
           have NB342_339 := Aside0.mk ((by rw [hg]; exact Nat.ne_of_gt (blk_lt (g := gb339) (o := .cells #[.slice (some ad341) l1_0.length c1_0] 24 (0, 0)) (uB BK339.out)) : gb342 ≠ gb339))
           replace BK339 := cB BK339 hb
           clear hb hbox hg
           refine hK.out _ _ ⟨(blk_cell BK338.out 0).trans rfl, (blk_cell BK339.out 0).trans rfl, (kc HB hw340_0), (kc HB hw340_1), (kc HB hw340_2), (kc HB hw341_0), (kc HB hw341_1), (kc HB hw341_2)⟩ (fun hHeld => ?_)
           clear hK K
           refine norm_ (a' := ?_) ?_ ?_
           rotate_left
           ·
            show Act.put _ (some 6) _ = _
            simp only [Act.put, List.setIfInBounds_toArray, List.set_cons_zero, List.set_cons_succ, i64_w, i32_w]
            rfl
           refine o1 11 (some 7) rfl rfl (fun K hK => ?_)
           refine box_step ?hg (N := 7) ?hd (cs := #[.int .i64 0, .string (⟨#[]⟩ : ByteArray), .slice none 0 0]) (t := 59) ?hr ?_; (case hd => rfl); (case hg => rfl); (case hr => first | (go_simp; done) | (go_simp; rfl))
           intro gb343 hg w58 hbox hb
           have BK343 := Aside0.mk (hbox)
           have GW343 := gw hg bl
           have GE343 := gw hg bl
           replace HB := Aside0.mk (below_step bl hb)
           have NB338_343 := Aside0.mk ((by rw [hg]; exact Nat.ne_of_lt (blk_lt (g := gb338) (o := .cells #[.slice (some ad340) l0_0.length c0_0] 24 (0, 0)) (uB BK338.out)) : gb338 ≠ gb343))
           have NB343_338 := Aside0.mk ((by rw [hg]; exact Nat.ne_of_gt (blk_lt (g := gb338) (o := .cells #[.slice (some ad340) l0_0.length c0_0] 24 (0, 0)) (uB BK338.out)) : gb343 ≠ gb338))
           replace BK338 := cB BK338 hb
           have NB339_343 := Aside0.mk ((by rw [hg]; exact Nat.ne_of_lt (blk_lt (g := gb339) (o := .cells #[.slice (some ad341) l1_0.length c1_0] 24 (0, 0)) (uB BK339.out)) : gb339 ≠ gb343))
           have NB343_339 := Aside0.mk ((by rw [hg]; exact Nat.ne_of_gt (blk_lt (g := gb339) (o := .cells #[.slice (some ad341) l1_0.length c1_0] 24 (0, 0)) (uB BK339.out)) : gb343 ≠ gb339))
           replace BK339 := cB BK339 hb
           have NB342_343 := Aside0.mk ((by rw [hg]; exact Nat.ne_of_lt (blk_lt (g := gb342) (o := .cells #[.int .i64 0, .string (⟨#[]⟩ : ByteArray), .slice none 0 0] 59 (0, 0)) (uB BK342.out)) : gb342 ≠ gb343))
           have NB343_342 := Aside0.mk ((by rw [hg]; exact Nat.ne_of_gt (blk_lt (g := gb342) (o := .cells #[.int .i64 0, .string (⟨#[]⟩ : ByteArray), .slice none 0 0] 59 (0, 0)) (uB BK342.out)) : gb343 ≠ gb342))
           replace BK342 := cB BK342 hb
           clear hb hbox hg
           refine hK.out _ _ ⟨(blk_cell BK338.out 0).trans rfl, (blk_cell BK339.out 0).trans rfl, (kc HB hw340_0), (kc HB hw340_1), (kc HB hw340_2), (kc HB hw341_0), (kc HB hw341_1), (kc HB hw341_2)⟩ (fun hHeld => ?_)
           clear hK K
           refine norm_ (a' := ?_) ?_ ?_
           rotate_left
           ·
            show Act.put _ (some 7) _ = _
            simp only [Act.put, List.setIfInBounds_toArray, List.set_cons_zero, List.set_cons_succ, i64_w, i32_w]
            rfl
           exact norm_ (by simp only [putAll, Act.put, List.setIfInBounds_toArray, List.set_cons_zero, List.set_cons_succ]) (hCont (gb342, gb343) _ ⟨hHeld, (uB BK338.out), (uB BK339.out), (uB BK342.out), (uB BK343.out), GW342.out, GE342.out, NB338_342.out, NB342_338.out, NB339_342.out, NB342_339.out, NB343_342.out, NB342_343.out, GW343.out, GE343.out, NB338_343.out, NB343_338.out, NB339_343.out, NB343_339.out, bl⟩)
          ·
           skip
           refine box_step ?hg (N := 7) ?hd (cs := #[.int .i64 0, .string (⟨#[]⟩ : ByteArray), .slice none 0 0]) (t := 59) ?hr ?_; (case hd => rfl); (case hg => rfl); (case hr => first | (go_simp; done) | (go_simp; rfl))
           intro gb343 hg w57 hbox hb
           have BK343 := Aside0.mk (hbox)
           have GW343 := gw hg bl
           have GE343 := gw hg bl
           replace HB := Aside0.mk (below_step bl hb)
           have NB338_343 := Aside0.mk ((by rw [hg]; exact Nat.ne_of_lt (blk_lt (g := gb338) (o := .cells #[.slice (some ad340) l0_0.length c0_0] 24 (0, 0)) (uB BK338.out)) : gb338 ≠ gb343))
           have NB343_338 := Aside0.mk ((by rw [hg]; exact Nat.ne_of_gt (blk_lt (g := gb338) (o := .cells #[.slice (some ad340) l0_0.length c0_0] 24 (0, 0)) (uB BK338.out)) : gb343 ≠ gb338))
           replace BK338 := cB BK338 hb
           have NB339_343 := Aside0.mk ((by rw [hg]; exact Nat.ne_of_lt (blk_lt (g := gb339) (o := .cells #[.slice (some ad341) l1_0.length c1_0] 24 (0, 0)) (uB BK339.out)) : gb339 ≠ gb343))
           have NB343_339 := Aside0.mk ((by rw [hg]; exact Nat.ne_of_gt (blk_lt (g := gb339) (o := .cells #[.slice (some ad341) l1_0.length c1_0] 24 (0, 0)) (uB BK339.out)) : gb343 ≠ gb339))
           replace BK339 := cB BK339 hb
           clear hb hbox hg
           refine hK.out _ _ ⟨(blk_cell BK338.out 0).trans rfl, (blk_cell BK339.out 0).trans rfl, (kc HB hw340_0), (kc HB hw340_1), (kc HB hw340_2), (kc HB hw341_0), (kc HB hw341_1), (kc HB hw341_2)⟩ (fun hHeld => ?_)
           clear hK K
           refine norm_ (a' := ?_) ?_ ?_
           rotate_left
           ·
            show Act.put _ (some 7) _ = _
            simp only [Act.put, List.setIfInBounds_toArray, List.set_cons_zero, List.set_cons_succ, i64_w, i32_w]
            rfl
           refine o1 10 (some 6) rfl rfl (fun K hK => ?_)
           refine box_step ?hg (N := 6) ?hd (cs := #[.int .i64 0, .string (⟨#[]⟩ : ByteArray), .slice none 0 0]) (t := 59) ?hr ?_; (case hd => rfl); (case hg => rfl); (case hr => first | (go_simp; done) | (go_simp; rfl))
           intro gb342 hg w58 hbox hb
           have BK342 := Aside0.mk (hbox)
           have GW342 := gw hg bl
           have GE342 := gw hg bl
           replace HB := Aside0.mk (below_step bl hb)
           have NB338_342 := Aside0.mk ((by rw [hg]; exact Nat.ne_of_lt (blk_lt (g := gb338) (o := .cells #[.slice (some ad340) l0_0.length c0_0] 24 (0, 0)) (uB BK338.out)) : gb338 ≠ gb342))
           have NB342_338 := Aside0.mk ((by rw [hg]; exact Nat.ne_of_gt (blk_lt (g := gb338) (o := .cells #[.slice (some ad340) l0_0.length c0_0] 24 (0, 0)) (uB BK338.out)) : gb342 ≠ gb338))
           replace BK338 := cB BK338 hb
           have NB339_342 := Aside0.mk ((by rw [hg]; exact Nat.ne_of_lt (blk_lt (g := gb339) (o := .cells #[.slice (some ad341) l1_0.length c1_0] 24 (0, 0)) (uB BK339.out)) : gb339 ≠ gb342))
           have NB342_339 := Aside0.mk ((by rw [hg]; exact Nat.ne_of_gt (blk_lt (g := gb339) (o := .cells #[.slice (some ad341) l1_0.length c1_0] 24 (0, 0)) (uB BK339.out)) : gb342 ≠ gb339))
           replace BK339 := cB BK339 hb
           have NB343_342 := Aside0.mk ((by rw [hg]; exact Nat.ne_of_lt (blk_lt (g := gb343) (o := .cells #[.int .i64 0, .string (⟨#[]⟩ : ByteArray), .slice none 0 0] 59 (0, 0)) (uB BK343.out)) : gb343 ≠ gb342))
           have NB342_343 := Aside0.mk ((by rw [hg]; exact Nat.ne_of_gt (blk_lt (g := gb343) (o := .cells #[.int .i64 0, .string (⟨#[]⟩ : ByteArray), .slice none 0 0] 59 (0, 0)) (uB BK343.out)) : gb342 ≠ gb343))
           replace BK343 := cB BK343 hb
           clear hb hbox hg
           refine hK.out _ _ ⟨(blk_cell BK338.out 0).trans rfl, (blk_cell BK339.out 0).trans rfl, (kc HB hw340_0), (kc HB hw340_1), (kc HB hw340_2), (kc HB hw341_0), (kc HB hw341_1), (kc HB hw341_2)⟩ (fun hHeld => ?_)
           clear hK K
           refine norm_ (a' := ?_) ?_ ?_
           rotate_left
           ·
            show Act.put _ (some 6) _ = _
            simp only [Act.put, List.setIfInBounds_toArray, List.set_cons_zero, List.set_cons_succ, i64_w, i32_w]
            rfl
           exact norm_ (by simp only [putAll, Act.put, List.setIfInBounds_toArray, List.set_cons_zero, List.set_cons_succ]) (hCont (gb342, gb343) _ ⟨hHeld, (uB BK338.out), (uB BK339.out), (uB BK342.out), (uB BK343.out), GW342.out, GE342.out, NB338_342.out, NB342_338.out, NB339_342.out, NB342_339.out, NB343_342.out, NB342_343.out, GW343.out, GE343.out, NB338_343.out, NB343_338.out, NB339_343.out, NB343_339.out, bl⟩)
         rintro ⟨gb342, gb343⟩ w59 ⟨hS_, h0_, h1_, h2_, h3_, h4_, h5_, h6_, h7_, h8_, h9_, h10_, h11_, h12_, h13_, h14_, h15_, h16_, h17_, h18_⟩
         have n0_ : Aside0 (w59.heap[gb338]? = some (.cells #[.slice (some ad340) l0_0.length c0_0] 24 (0, 0))) := ⟨h0_⟩
         have n1_ : Aside0 (w59.heap[gb339]? = some (.cells #[.slice (some ad341) l1_0.length c1_0] 24 (0, 0))) := ⟨h1_⟩
         have n2_ : Aside0 (w59.heap[gb342]? = some (.cells #[.int .i64 0, .string (⟨#[]⟩ : ByteArray), .slice none 0 0] 59 (0, 0))) := ⟨h2_⟩
         have n3_ : Aside0 (w59.heap[gb343]? = some (.cells #[.int .i64 0, .string (⟨#[]⟩ : ByteArray), .slice none 0 0] 59 (0, 0))) := ⟨h3_⟩
         have n4_ : Aside0 (w.heap.size ≤ gb342) := ⟨h4_⟩
         have n5_ : Aside0 (w.heap.size ≤ gb342) := ⟨h5_⟩
         have n6_ : Aside0 (gb338 ≠ gb342) := ⟨h6_⟩
         have n7_ : Aside0 (gb342 ≠ gb338) := ⟨h7_⟩
         have n8_ : Aside0 (gb339 ≠ gb342) := ⟨h8_⟩
         have n9_ : Aside0 (gb342 ≠ gb339) := ⟨h9_⟩
         have n10_ : Aside0 (gb343 ≠ gb342) := ⟨h10_⟩
         have n11_ : Aside0 (gb342 ≠ gb343) := ⟨h11_⟩
         have n12_ : Aside0 (w.heap.size ≤ gb343) := ⟨h12_⟩
         have n13_ : Aside0 (w.heap.size ≤ gb343) := ⟨h13_⟩
         have n14_ : Aside0 (gb338 ≠ gb343) := ⟨h14_⟩
         have n15_ : Aside0 (gb343 ≠ gb338) := ⟨h15_⟩
         have n16_ : Aside0 (gb339 ≠ gb343) := ⟨h16_⟩
         have n17_ : Aside0 (gb343 ≠ gb339) := ⟨h17_⟩
         have n18_ : Aside0 (Below w.heap.size w w59) := ⟨h18_⟩
         clear BK338
         clear BK339
         clear HB
         clear h0_ h1_ h2_ h3_ h4_ h5_ h6_ h7_ h8_ h9_ h10_ h11_ h12_ h13_ h14_ h15_ h16_ h17_ h18_
         have BK338 := n0_
         have BK339 := n1_
         have BK342 := n2_
         have BK343 := n3_
         have GW342 := n4_
         have GE342 := n5_
         have NB338_342 := n6_
         have NB342_338 := n7_
         have NB339_342 := n8_
         have NB342_339 := n9_
         have NB343_342 := n10_
         have NB342_343 := n11_
         have GW343 := n12_
         have GE343 := n13_
         have NB338_343 := n14_
         have NB343_338 := n15_
         have NB339_343 := n16_
         have NB343_339 := n17_
         have HB := n18_
         clear n0_ n1_ n2_ n3_ n4_ n5_ n6_ n7_ n8_ n9_ n10_ n11_ n12_ n13_ n14_ n15_ n16_ n17_ n18_
         have hHeld : w59.cell? ⟨gb338, 0, none⟩ = some (.slice (some ad340) l0_0.length c0_0) ∧ w59.cell? ⟨gb339, 0, none⟩ = some (.slice (some ad341) l1_0.length c1_0) ∧ w59.cell? (ad340.add ((x5_1).toNat * 3)) = some (.int .i64 ((rd_T59 l0_0 x5_1).f0)) ∧ w59.cell? ⟨(ad340.add ((x5_1).toNat * 3)).block, (ad340.add ((x5_1).toNat * 3)).off + 1, none⟩ = some (.string ((rd_T59 l0_0 x5_1).f1)) ∧ w59.cell? ⟨(ad340.add ((x5_1).toNat * 3)).block, (ad340.add ((x5_1).toNat * 3)).off + 2, none⟩ = some (.slice A340_2 ((rd_T59 l0_0 x5_1).f2).length c340_2) ∧ w59.cell? (ad341.add ((x5_1).toNat * 3)) = some (.int .i64 ((rd_T59 l1_0 x5_1).f0)) ∧ w59.cell? ⟨(ad341.add ((x5_1).toNat * 3)).block, (ad341.add ((x5_1).toNat * 3)).off + 1, none⟩ = some (.string ((rd_T59 l1_0 x5_1).f1)) ∧ w59.cell? ⟨(ad341.add ((x5_1).toNat * 3)).block, (ad341.add ((x5_1).toNat * 3)).off + 2, none⟩ = some (.slice A341_2 ((rd_T59 l1_0 x5_1).f2).length c341_2) := hS_
         refine norm_ (a' := ?_) ?_ ?_
         rotate_left
         ·
          simp only [putAll, Act.put, List.setIfInBounds_toArray, List.set_cons_zero, List.set_cons_succ]
          rfl
         refine o1 12 none rfl rfl (fun K hK => ?_)
         have hs60 : w59.cell? ⟨gb342, 0, none⟩ = some (.int .i64 0) := (blk_cell BK342.out 0).trans rfl
         have hfs60 := blk_frozen BK342.out 0
         have hns60_0 := NB338_342.out
         have hns60_1 := NB339_342.out
         have hns60_3 := NB343_342.out
         have hms60_0 := NB342_338.out
         have hms60_1 := NB342_339.out
         have hms60_3 := NB342_343.out
         have hs61 : w59.cell? ⟨gb342, 1, none⟩ = some (.string (⟨#[]⟩ : ByteArray)) := (blk_cell BK342.out 1).trans rfl
         have hfs61 := blk_frozen BK342.out 1
         have hns61_0 := NB338_342.out
         have hns61_1 := NB339_342.out
         have hns61_3 := NB343_342.out
         have hms61_0 := NB342_338.out
         have hms61_1 := NB342_339.out
         have hms61_3 := NB342_343.out
         have hs62 : w59.cell? ⟨gb342, 2, none⟩ = some (.slice none 0 0) := (blk_cell BK342.out 2).trans rfl
         have hfs62 := blk_frozen BK342.out 2
         have hns62_0 := NB338_342.out
         have hns62_1 := NB339_342.out
         have hns62_3 := NB343_342.out
         have hms62_0 := NB342_338.out
         have hms62_1 := NB342_339.out
         have hms62_3 := NB342_343.out
         refine skip_ (w1 := ?_) (by rfl) rfl ?_ ?_
         rotate_left
         ·
          go_simp
          rfl
         refine hK.out _ _ ⟨(ct NB338_342.out ((ct NB338_342.out ((ct NB338_342.out (hHeld.1)))))), (ct NB339_342.out ((ct NB339_342.out ((ct NB339_342.out (hHeld.2.1)))))), (ct (nb hw340_0 GW342) ((ct (nb hw340_0 GW342) ((ct (nb hw340_0 GW342) (hHeld.2.2.1)))))), (ct (nb hw340_1 GW342) ((ct (nb hw340_1 GW342) ((ct (nb hw340_1 GW342) (hHeld.2.2.2.1)))))), (ct (nb hw340_2 GW342) ((ct (nb hw340_2 GW342) ((ct (nb hw340_2 GW342) (hHeld.2.2.2.2.1)))))), (ct (nb hw341_0 GW342) ((ct (nb hw341_0 GW342) ((ct (nb hw341_0 GW342) (hHeld.2.2.2.2.2.1)))))), (ct (nb hw341_1 GW342) ((ct (nb hw341_1 GW342) ((ct (nb hw341_1 GW342) (hHeld.2.2.2.2.2.2.1)))))), (ct (nb hw341_2 GW342) ((ct (nb hw341_2 GW342) ((ct (nb hw341_2 GW342) (hHeld.2.2.2.2.2.2.2))))))⟩ (fun hHeld => ?_)
         clear hK K
         refine o1 13 none rfl rfl (fun K hK => ?_)
         have hs63 : w59.cell? ⟨gb343, 0, none⟩ = some (.int .i64 0) := (blk_cell BK343.out 0).trans rfl
         have hfs63 := blk_frozen BK343.out 0
         have hns63_0 := NB338_343.out
         have hns63_1 := NB339_343.out
         have hns63_2 := NB342_343.out
         have hms63_0 := NB343_338.out
         have hms63_1 := NB343_339.out
         have hms63_2 := NB343_342.out
         have hs64 : w59.cell? ⟨gb343, 1, none⟩ = some (.string (⟨#[]⟩ : ByteArray)) := (blk_cell BK343.out 1).trans rfl
         have hfs64 := blk_frozen BK343.out 1
         have hns64_0 := NB338_343.out
         have hns64_1 := NB339_343.out
         have hns64_2 := NB342_343.out
         have hms64_0 := NB343_338.out
         have hms64_1 := NB343_339.out
         have hms64_2 := NB343_342.out
         have hs65 : w59.cell? ⟨gb343, 2, none⟩ = some (.slice none 0 0) := (blk_cell BK343.out 2).trans rfl
         have hfs65 := blk_frozen BK343.out 2
         have hns65_0 := NB338_343.out
         have hns65_1 := NB339_343.out
         have hns65_2 := NB342_343.out
         have hms65_0 := NB343_338.out
         have hms65_1 := NB343_339.out
         have hms65_2 := NB343_342.out
         refine skip_ (w1 := ?_) (by rfl) rfl ?_ ?_
         rotate_left
         ·
          go_simp
          rfl
         refine hK.out _ _ ⟨(ct NB338_343.out ((ct NB338_343.out ((ct NB338_343.out (hHeld.1)))))), (ct NB339_343.out ((ct NB339_343.out ((ct NB339_343.out (hHeld.2.1)))))), (ct (nb hw340_0 GW343) ((ct (nb hw340_0 GW343) ((ct (nb hw340_0 GW343) (hHeld.2.2.1)))))), (ct (nb hw340_1 GW343) ((ct (nb hw340_1 GW343) ((ct (nb hw340_1 GW343) (hHeld.2.2.2.1)))))), (ct (nb hw340_2 GW343) ((ct (nb hw340_2 GW343) ((ct (nb hw340_2 GW343) (hHeld.2.2.2.2.1)))))), (ct (nb hw341_0 GW343) ((ct (nb hw341_0 GW343) ((ct (nb hw341_0 GW343) (hHeld.2.2.2.2.2.1)))))), (ct (nb hw341_1 GW343) ((ct (nb hw341_1 GW343) ((ct (nb hw341_1 GW343) (hHeld.2.2.2.2.2.2.1)))))), (ct (nb hw341_2 GW343) ((ct (nb hw341_2 GW343) ((ct (nb hw341_2 GW343) (hHeld.2.2.2.2.2.2.2))))))⟩ (fun hHeld => ?_)
         clear hK K
         refine done_ (done_of HT_.out (by kernel_rfl)) ?_
         have hnb66 := NB342_338.out
         have hnc66 := NB338_342.out
         have hnb67 := NB342_339.out
         have hnc67 := NB339_342.out
         have hnb68 := NB342_343.out
         have hnc68 := NB343_342.out
         obtain ⟨hcz69_0, hcz69_1, hcz69_2, hfz69_0, hfz69_1, hfz69_2⟩ := z3 BK342
         have hnb70 := NB343_338.out
         have hnc70 := NB338_343.out
         have hnb71 := NB343_339.out
         have hnc71 := NB339_343.out
         obtain ⟨hcz72_0, hcz72_1, hcz72_2, hfz72_0, hfz72_1, hfz72_2⟩ := z3 BK343
         try go_wp2
         go_ret
         exact ⟨re_, bl⟩
       ·
        rw [if_neg c12] at H
        have c12b0 : (((rd_T59 l0_0 x5_1).f0) == ((rd_T59 l1_0 x5_1).f0)) = false := beq_eq_false_iff_ne.mpr c12
        have c12b1 : (((rd_T59 l0_0 x5_1).f0) != ((rd_T59 l1_0 x5_1).f0)) = true := bne_iff_ne.mpr c12
        obtain rfl := Option.some.inj H
        have hnb73 := NB338_339.out
        have hnc73 := NB339_338.out
        obtain ⟨hcz74_0, hfz74_0⟩ := z1 BK338
        try go_wp2
        replace BK338 := Aside0.mk (blk_drew BK338.out)
        replace BK339 := Aside0.mk (blk_drew BK339.out)
        replace HB := Aside0.mk (below_drew1 HB.out)
        have p340 : 0 ≤ (x5_1 : Int) := od
        have q340 : x5_1 < (l0_0.length : Int) := od
        obtain ⟨ad340, A340_2, c340_2, e340, hx340_0, hx340_1, hx340_2, hl340_2, hi340_2⟩ := at_T59 HR0_0.out x5_1 p340 q340
        have hw340_2 := hx340_2
        have hw340_1 := hx340_1
        have hw340_0 := hx340_0
        cases e340
        replace hx340_0 := kc HB hx340_0
        replace hx340_1 := kc HB hx340_1
        replace hx340_2 := kc HB hx340_2
        have HR340_2 := Aside0.mk hi340_2
        have HC340_2 := Aside0.mk hl340_2
        clear hi340_2 hl340_2
        replace p340 := eq_true p340
        replace q340 := eq_true q340
        have p341 : 0 ≤ (x5_1 : Int) := od
        have q341 : x5_1 < (l1_0.length : Int) := od
        obtain ⟨ad341, A341_2, c341_2, e341, hx341_0, hx341_1, hx341_2, hl341_2, hi341_2⟩ := at_T59 HR1_0.out x5_1 p341 q341
        have hw341_2 := hx341_2
        have hw341_1 := hx341_1
        have hw341_0 := hx341_0
        cases e341
        replace hx341_0 := kc HB hx341_0
        replace hx341_1 := kc HB hx341_1
        replace hx341_2 := kc HB hx341_2
        have HR341_2 := Aside0.mk hi341_2
        have HC341_2 := Aside0.mk hl341_2
        clear hi341_2 hl341_2
        replace p341 := eq_true p341
        replace q341 := eq_true q341
        refine start_ (n := 14) (S := fun w' => w'.cell? ⟨gb338, 0, none⟩ = some (.slice (some ad340) l0_0.length c0_0) ∧ w'.cell? ⟨gb339, 0, none⟩ = some (.slice (some ad341) l1_0.length c1_0) ∧ w'.cell? (ad340.add ((x5_1).toNat * 3)) = some (.int .i64 ((rd_T59 l0_0 x5_1).f0)) ∧ w'.cell? ⟨(ad340.add ((x5_1).toNat * 3)).block, (ad340.add ((x5_1).toNat * 3)).off + 1, none⟩ = some (.string ((rd_T59 l0_0 x5_1).f1)) ∧ w'.cell? ⟨(ad340.add ((x5_1).toNat * 3)).block, (ad340.add ((x5_1).toNat * 3)).off + 2, none⟩ = some (.slice A340_2 ((rd_T59 l0_0 x5_1).f2).length c340_2) ∧ w'.cell? (ad341.add ((x5_1).toNat * 3)) = some (.int .i64 ((rd_T59 l1_0 x5_1).f0)) ∧ w'.cell? ⟨(ad341.add ((x5_1).toNat * 3)).block, (ad341.add ((x5_1).toNat * 3)).off + 1, none⟩ = some (.string ((rd_T59 l1_0 x5_1).f1)) ∧ w'.cell? ⟨(ad341.add ((x5_1).toNat * 3)).block, (ad341.add ((x5_1).toNat * 3)).off + 2, none⟩ = some (.slice A341_2 ((rd_T59 l1_0 x5_1).f2).length c341_2)) (ds := []) _ (by kernel_rfl) rfl rfl ⟨(blk_cell BK338.out 0).trans rfl, (blk_cell BK339.out 0).trans rfl, (kc HB hw340_0), (kc HB hw340_1), (kc HB hw340_2), (kc HB hw341_0), (kc HB hw341_1), (kc HB hw341_2)⟩ (fun hHeld => ?_); refine with_tabW r11_Same.tab6 r11_Same.bits6 (fun HT_ HW_ => ?_)
        generalize wr.drew = w75 at BK338 BK339 HB HR340_2 HR341_2 hx340_0 hx340_1 hx340_2 hx341_0 hx341_1 hx341_2 hHeld ⊢
        refine p1 0 (some 22) ?_
        refine p1 2 (some 24) ?_
        refine p1 5 (some 27) ?_
        refine p1 7 (some 29) ?_
        refine t1 1 (some 23) rfl rfl hHeld (Or.inl ⟨by rfl, by rintro w' ⟨s0, s1, s2, s3, s4, s5, s6, s7⟩; go_simp; with_reducible rfl⟩) ?_
        refine p1 3 (some 25) ?_
        refine t1 4 (some 26) rfl rfl hHeld (Or.inl ⟨by rfl, by rintro w' ⟨s0, s1, s2, s3, s4, s5, s6, s7⟩; go_simp; with_reducible rfl⟩) ?_
        refine t1 6 (some 28) rfl rfl hHeld (Or.inl ⟨by rfl, by rintro w' ⟨s0, s1, s2, s3, s4, s5, s6, s7⟩; go_simp; with_reducible rfl⟩) ?_
        refine p1 8 (some 30) ?_
        refine t1 9 (some 31) rfl rfl hHeld (Or.inl ⟨by rfl, by rintro w' ⟨s0, s1, s2, s3, s4, s5, s6, s7⟩; go_simp; with_reducible rfl⟩) ?_
        refine join_ (σ := Nat × Nat) 2 #[true, true, true, true, true, true, true, true, true, true, true, true, false, false] (fun s_ => [(6, .pointer (some ⟨s_.1, 0, none⟩)), (7, .pointer (some ⟨s_.2, 0, none⟩))]) (fun s_ w' => (w'.cell? ⟨gb338, 0, none⟩ = some (.slice (some ad340) l0_0.length c0_0) ∧ w'.cell? ⟨gb339, 0, none⟩ = some (.slice (some ad341) l1_0.length c1_0) ∧ w'.cell? (ad340.add ((x5_1).toNat * 3)) = some (.int .i64 ((rd_T59 l0_0 x5_1).f0)) ∧ w'.cell? ⟨(ad340.add ((x5_1).toNat * 3)).block, (ad340.add ((x5_1).toNat * 3)).off + 1, none⟩ = some (.string ((rd_T59 l0_0 x5_1).f1)) ∧ w'.cell? ⟨(ad340.add ((x5_1).toNat * 3)).block, (ad340.add ((x5_1).toNat * 3)).off + 2, none⟩ = some (.slice A340_2 ((rd_T59 l0_0 x5_1).f2).length c340_2) ∧ w'.cell? (ad341.add ((x5_1).toNat * 3)) = some (.int .i64 ((rd_T59 l1_0 x5_1).f0)) ∧ w'.cell? ⟨(ad341.add ((x5_1).toNat * 3)).block, (ad341.add ((x5_1).toNat * 3)).off + 1, none⟩ = some (.string ((rd_T59 l1_0 x5_1).f1)) ∧ w'.cell? ⟨(ad341.add ((x5_1).toNat * 3)).block, (ad341.add ((x5_1).toNat * 3)).off + 2, none⟩ = some (.slice A341_2 ((rd_T59 l1_0 x5_1).f2).length c341_2)) ∧ (w'.heap[gb338]? = some (.cells #[.slice (some ad340) l0_0.length c0_0] 24 (0, 0))) ∧ (w'.heap[gb339]? = some (.cells #[.slice (some ad341) l1_0.length c1_0] 24 (0, 0))) ∧ (w'.heap[s_.1]? = some (.cells #[.int .i64 0, .string (⟨#[]⟩ : ByteArray), .slice none 0 0] 59 (0, 0))) ∧ (w'.heap[s_.2]? = some (.cells #[.int .i64 0, .string (⟨#[]⟩ : ByteArray), .slice none 0 0] 59 (0, 0))) ∧ (w.heap.size ≤ s_.1) ∧ (w.heap.size ≤ s_.1) ∧ (gb338 ≠ s_.1) ∧ (s_.1 ≠ gb338) ∧ (gb339 ≠ s_.1) ∧ (s_.1 ≠ gb339) ∧ (s_.2 ≠ s_.1) ∧ (s_.1 ≠ s_.2) ∧ (w.heap.size ≤ s_.2) ∧ (w.heap.size ≤ s_.2) ∧ (gb338 ≠ s_.2) ∧ (s_.2 ≠ gb338) ∧ (gb339 ≠ s_.2) ∧ (s_.2 ≠ gb339) ∧ (Below w.heap.size w w')) ?_ ?_
        rotate_left
        ·
         intro hCont
         refine two_ (i := 10) (j := 11) (Ni := some 6) (Nj := some 7) #[true, true, true, true, true, true, true, true, true, true, true, false, false, false] #[true, true, true, true, true, true, true, true, true, true, false, true, false, false] rfl rfl rfl rfl (two_of HT_.out (by kernel_rfl)) (by decide) (by decide) (fun K hK => ?_) (fun K hK => ?_)
         ·
          skip
          refine box_step ?hg (N := 6) ?hd (cs := #[.int .i64 0, .string (⟨#[]⟩ : ByteArray), .slice none 0 0]) (t := 59) ?hr ?_; (case hd => rfl); (case hg => rfl); (case hr => first | (go_simp; done) | (go_simp; rfl))
          intro gb342 hg w76 hbox hb
          have BK342 := Aside0.mk (hbox)
          have GW342 := gw hg bl
          have GE342 := gw hg bl
          replace HB := Aside0.mk (below_step bl hb)
          have NB338_342 := Aside0.mk ((by rw [hg]; exact Nat.ne_of_lt (blk_lt (g := gb338) (o := .cells #[.slice (some ad340) l0_0.length c0_0] 24 (0, 0)) (uB BK338.out)) : gb338 ≠ gb342))
          have NB342_338 := Aside0.mk ((by rw [hg]; exact Nat.ne_of_gt (blk_lt (g := gb338) (o := .cells #[.slice (some ad340) l0_0.length c0_0] 24 (0, 0)) (uB BK338.out)) : gb342 ≠ gb338))
          replace BK338 := cB BK338 hb
          have NB339_342 := Aside0.mk ((by rw [hg]; exact Nat.ne_of_lt (blk_lt (g := gb339) (o := .cells #[.slice (some ad341) l1_0.length c1_0] 24 (0, 0)) (uB BK339.out)) : gb339 ≠ gb342))
          have NB342_339 := Aside0.mk ((by rw [hg]; exact Nat.ne_of_gt (blk_lt (g := gb339) (o := .cells #[.slice (some ad341) l1_0.length c1_0] 24 (0, 0)) (uB BK339.out)) : gb342 ≠ gb339))
          replace BK339 := cB BK339 hb
          clear hb hbox hg
          refine hK.out _ _ ⟨(blk_cell BK338.out 0).trans rfl, (blk_cell BK339.out 0).trans rfl, (kc HB hw340_0), (kc HB hw340_1), (kc HB hw340_2), (kc HB hw341_0), (kc HB hw341_1), (kc HB hw341_2)⟩ (fun hHeld => ?_)
          clear hK K
          refine norm_ (a' := ?_) ?_ ?_
          rotate_left
          ·
           show Act.put _ (some 6) _ = _
           simp only [Act.put, List.setIfInBounds_toArray, List.set_cons_zero, List.set_cons_succ, i64_w, i32_w]
           rfl
          refine o1 11 (some 7) rfl rfl (fun K hK => ?_)
          refine box_step ?hg (N := 7) ?hd (cs := #[.int .i64 0, .string (⟨#[]⟩ : ByteArray), .slice none 0 0]) (t := 59) ?hr ?_; (case hd => rfl); (case hg => rfl); (case hr => first | (go_simp; done) | (go_simp; rfl))
          intro gb343 hg w77 hbox hb
          have BK343 := Aside0.mk (hbox)
          have GW343 := gw hg bl
          have GE343 := gw hg bl
          replace HB := Aside0.mk (below_step bl hb)
          have NB338_343 := Aside0.mk ((by rw [hg]; exact Nat.ne_of_lt (blk_lt (g := gb338) (o := .cells #[.slice (some ad340) l0_0.length c0_0] 24 (0, 0)) (uB BK338.out)) : gb338 ≠ gb343))
          have NB343_338 := Aside0.mk ((by rw [hg]; exact Nat.ne_of_gt (blk_lt (g := gb338) (o := .cells #[.slice (some ad340) l0_0.length c0_0] 24 (0, 0)) (uB BK338.out)) : gb343 ≠ gb338))
          replace BK338 := cB BK338 hb
          have NB339_343 := Aside0.mk ((by rw [hg]; exact Nat.ne_of_lt (blk_lt (g := gb339) (o := .cells #[.slice (some ad341) l1_0.length c1_0] 24 (0, 0)) (uB BK339.out)) : gb339 ≠ gb343))
          have NB343_339 := Aside0.mk ((by rw [hg]; exact Nat.ne_of_gt (blk_lt (g := gb339) (o := .cells #[.slice (some ad341) l1_0.length c1_0] 24 (0, 0)) (uB BK339.out)) : gb343 ≠ gb339))
          replace BK339 := cB BK339 hb
          have NB342_343 := Aside0.mk ((by rw [hg]; exact Nat.ne_of_lt (blk_lt (g := gb342) (o := .cells #[.int .i64 0, .string (⟨#[]⟩ : ByteArray), .slice none 0 0] 59 (0, 0)) (uB BK342.out)) : gb342 ≠ gb343))
          have NB343_342 := Aside0.mk ((by rw [hg]; exact Nat.ne_of_gt (blk_lt (g := gb342) (o := .cells #[.int .i64 0, .string (⟨#[]⟩ : ByteArray), .slice none 0 0] 59 (0, 0)) (uB BK342.out)) : gb343 ≠ gb342))
          replace BK342 := cB BK342 hb
          clear hb hbox hg
          refine hK.out _ _ ⟨(blk_cell BK338.out 0).trans rfl, (blk_cell BK339.out 0).trans rfl, (kc HB hw340_0), (kc HB hw340_1), (kc HB hw340_2), (kc HB hw341_0), (kc HB hw341_1), (kc HB hw341_2)⟩ (fun hHeld => ?_)
          clear hK K
          refine norm_ (a' := ?_) ?_ ?_
          rotate_left
          ·
           show Act.put _ (some 7) _ = _
           simp only [Act.put, List.setIfInBounds_toArray, List.set_cons_zero, List.set_cons_succ, i64_w, i32_w]
           rfl
          exact norm_ (by simp only [putAll, Act.put, List.setIfInBounds_toArray, List.set_cons_zero, List.set_cons_succ]) (hCont (gb342, gb343) _ ⟨hHeld, (uB BK338.out), (uB BK339.out), (uB BK342.out), (uB BK343.out), GW342.out, GE342.out, NB338_342.out, NB342_338.out, NB339_342.out, NB342_339.out, NB343_342.out, NB342_343.out, GW343.out, GE343.out, NB338_343.out, NB343_338.out, NB339_343.out, NB343_339.out, bl⟩)
         ·
          skip
          refine box_step ?hg (N := 7) ?hd (cs := #[.int .i64 0, .string (⟨#[]⟩ : ByteArray), .slice none 0 0]) (t := 59) ?hr ?_; (case hd => rfl); (case hg => rfl); (case hr => first | (go_simp; done) | (go_simp; rfl))
          intro gb343 hg w76 hbox hb
          have BK343 := Aside0.mk (hbox)
          have GW343 := gw hg bl
          have GE343 := gw hg bl
          replace HB := Aside0.mk (below_step bl hb)
          have NB338_343 := Aside0.mk ((by rw [hg]; exact Nat.ne_of_lt (blk_lt (g := gb338) (o := .cells #[.slice (some ad340) l0_0.length c0_0] 24 (0, 0)) (uB BK338.out)) : gb338 ≠ gb343))
          have NB343_338 := Aside0.mk ((by rw [hg]; exact Nat.ne_of_gt (blk_lt (g := gb338) (o := .cells #[.slice (some ad340) l0_0.length c0_0] 24 (0, 0)) (uB BK338.out)) : gb343 ≠ gb338))
          replace BK338 := cB BK338 hb
          have NB339_343 := Aside0.mk ((by rw [hg]; exact Nat.ne_of_lt (blk_lt (g := gb339) (o := .cells #[.slice (some ad341) l1_0.length c1_0] 24 (0, 0)) (uB BK339.out)) : gb339 ≠ gb343))
          have NB343_339 := Aside0.mk ((by rw [hg]; exact Nat.ne_of_gt (blk_lt (g := gb339) (o := .cells #[.slice (some ad341) l1_0.length c1_0] 24 (0, 0)) (uB BK339.out)) : gb343 ≠ gb339))
          replace BK339 := cB BK339 hb
          clear hb hbox hg
          refine hK.out _ _ ⟨(blk_cell BK338.out 0).trans rfl, (blk_cell BK339.out 0).trans rfl, (kc HB hw340_0), (kc HB hw340_1), (kc HB hw340_2), (kc HB hw341_0), (kc HB hw341_1), (kc HB hw341_2)⟩ (fun hHeld => ?_)
          clear hK K
          refine norm_ (a' := ?_) ?_ ?_
          rotate_left
          ·
           show Act.put _ (some 7) _ = _
           simp only [Act.put, List.setIfInBounds_toArray, List.set_cons_zero, List.set_cons_succ, i64_w, i32_w]
           rfl
          refine o1 10 (some 6) rfl rfl (fun K hK => ?_)
          refine box_step ?hg (N := 6) ?hd (cs := #[.int .i64 0, .string (⟨#[]⟩ : ByteArray), .slice none 0 0]) (t := 59) ?hr ?_; (case hd => rfl); (case hg => rfl); (case hr => first | (go_simp; done) | (go_simp; rfl))
          intro gb342 hg w77 hbox hb
          have BK342 := Aside0.mk (hbox)
          have GW342 := gw hg bl
          have GE342 := gw hg bl
          replace HB := Aside0.mk (below_step bl hb)
          have NB338_342 := Aside0.mk ((by rw [hg]; exact Nat.ne_of_lt (blk_lt (g := gb338) (o := .cells #[.slice (some ad340) l0_0.length c0_0] 24 (0, 0)) (uB BK338.out)) : gb338 ≠ gb342))
          have NB342_338 := Aside0.mk ((by rw [hg]; exact Nat.ne_of_gt (blk_lt (g := gb338) (o := .cells #[.slice (some ad340) l0_0.length c0_0] 24 (0, 0)) (uB BK338.out)) : gb342 ≠ gb338))
          replace BK338 := cB BK338 hb
          have NB339_342 := Aside0.mk ((by rw [hg]; exact Nat.ne_of_lt (blk_lt (g := gb339) (o := .cells #[.slice (some ad341) l1_0.length c1_0] 24 (0, 0)) (uB BK339.out)) : gb339 ≠ gb342))
          have NB342_339 := Aside0.mk ((by rw [hg]; exact Nat.ne_of_gt (blk_lt (g := gb339) (o := .cells #[.slice (some ad341) l1_0.length c1_0] 24 (0, 0)) (uB BK339.out)) : gb342 ≠ gb339))
          replace BK339 := cB BK339 hb
          have NB343_342 := Aside0.mk ((by rw [hg]; exact Nat.ne_of_lt (blk_lt (g := gb343) (o := .cells #[.int .i64 0, .string (⟨#[]⟩ : ByteArray), .slice none 0 0] 59 (0, 0)) (uB BK343.out)) : gb343 ≠ gb342))
          have NB342_343 := Aside0.mk ((by rw [hg]; exact Nat.ne_of_gt (blk_lt (g := gb343) (o := .cells #[.int .i64 0, .string (⟨#[]⟩ : ByteArray), .slice none 0 0] 59 (0, 0)) (uB BK343.out)) : gb342 ≠ gb343))
          replace BK343 := cB BK343 hb
          clear hb hbox hg
          refine hK.out _ _ ⟨(blk_cell BK338.out 0).trans rfl, (blk_cell BK339.out 0).trans rfl, (kc HB hw340_0), (kc HB hw340_1), (kc HB hw340_2), (kc HB hw341_0), (kc HB hw341_1), (kc HB hw341_2)⟩ (fun hHeld => ?_)
          clear hK K
          refine norm_ (a' := ?_) ?_ ?_
          rotate_left
          ·
           show Act.put _ (some 6) _ = _
           simp only [Act.put, List.setIfInBounds_toArray, List.set_cons_zero, List.set_cons_succ, i64_w, i32_w]
           rfl
          exact norm_ (by simp only [putAll, Act.put, List.setIfInBounds_toArray, List.set_cons_zero, List.set_cons_succ]) (hCont (gb342, gb343) _ ⟨hHeld, (uB BK338.out), (uB BK339.out), (uB BK342.out), (uB BK343.out), GW342.out, GE342.out, NB338_342.out, NB342_338.out, NB339_342.out, NB342_339.out, NB343_342.out, NB342_343.out, GW343.out, GE343.out, NB338_343.out, NB343_338.out, NB339_343.out, NB343_339.out, bl⟩)
        rintro ⟨gb342, gb343⟩ w78 ⟨hS_, h0_, h1_, h2_, h3_, h4_, h5_, h6_, h7_, h8_, h9_, h10_, h11_, h12_, h13_, h14_, h15_, h16_, h17_, h18_⟩
        have n0_ : Aside0 (w78.heap[gb338]? = some (.cells #[.slice (some ad340) l0_0.length c0_0] 24 (0, 0))) := ⟨h0_⟩
        have n1_ : Aside0 (w78.heap[gb339]? = some (.cells #[.slice (some ad341) l1_0.length c1_0] 24 (0, 0))) := ⟨h1_⟩
        have n2_ : Aside0 (w78.heap[gb342]? = some (.cells #[.int .i64 0, .string (⟨#[]⟩ : ByteArray), .slice none 0 0] 59 (0, 0))) := ⟨h2_⟩
        have n3_ : Aside0 (w78.heap[gb343]? = some (.cells #[.int .i64 0, .string (⟨#[]⟩ : ByteArray), .slice none 0 0] 59 (0, 0))) := ⟨h3_⟩
        have n4_ : Aside0 (w.heap.size ≤ gb342) := ⟨h4_⟩
        have n5_ : Aside0 (w.heap.size ≤ gb342) := ⟨h5_⟩
        have n6_ : Aside0 (gb338 ≠ gb342) := ⟨h6_⟩
        have n7_ : Aside0 (gb342 ≠ gb338) := ⟨h7_⟩
        have n8_ : Aside0 (gb339 ≠ gb342) := ⟨h8_⟩
        have n9_ : Aside0 (gb342 ≠ gb339) := ⟨h9_⟩
        have n10_ : Aside0 (gb343 ≠ gb342) := ⟨h10_⟩
        have n11_ : Aside0 (gb342 ≠ gb343) := ⟨h11_⟩
        have n12_ : Aside0 (w.heap.size ≤ gb343) := ⟨h12_⟩
        have n13_ : Aside0 (w.heap.size ≤ gb343) := ⟨h13_⟩
        have n14_ : Aside0 (gb338 ≠ gb343) := ⟨h14_⟩
        have n15_ : Aside0 (gb343 ≠ gb338) := ⟨h15_⟩
        have n16_ : Aside0 (gb339 ≠ gb343) := ⟨h16_⟩
        have n17_ : Aside0 (gb343 ≠ gb339) := ⟨h17_⟩
        have n18_ : Aside0 (Below w.heap.size w w78) := ⟨h18_⟩
        clear BK338
        clear BK339
        clear HB
        clear h0_ h1_ h2_ h3_ h4_ h5_ h6_ h7_ h8_ h9_ h10_ h11_ h12_ h13_ h14_ h15_ h16_ h17_ h18_
        have BK338 := n0_
        have BK339 := n1_
        have BK342 := n2_
        have BK343 := n3_
        have GW342 := n4_
        have GE342 := n5_
        have NB338_342 := n6_
        have NB342_338 := n7_
        have NB339_342 := n8_
        have NB342_339 := n9_
        have NB343_342 := n10_
        have NB342_343 := n11_
        have GW343 := n12_
        have GE343 := n13_
        have NB338_343 := n14_
        have NB343_338 := n15_
        have NB339_343 := n16_
        have NB343_339 := n17_
        have HB := n18_
        clear n0_ n1_ n2_ n3_ n4_ n5_ n6_ n7_ n8_ n9_ n10_ n11_ n12_ n13_ n14_ n15_ n16_ n17_ n18_
        have hHeld : w78.cell? ⟨gb338, 0, none⟩ = some (.slice (some ad340) l0_0.length c0_0) ∧ w78.cell? ⟨gb339, 0, none⟩ = some (.slice (some ad341) l1_0.length c1_0) ∧ w78.cell? (ad340.add ((x5_1).toNat * 3)) = some (.int .i64 ((rd_T59 l0_0 x5_1).f0)) ∧ w78.cell? ⟨(ad340.add ((x5_1).toNat * 3)).block, (ad340.add ((x5_1).toNat * 3)).off + 1, none⟩ = some (.string ((rd_T59 l0_0 x5_1).f1)) ∧ w78.cell? ⟨(ad340.add ((x5_1).toNat * 3)).block, (ad340.add ((x5_1).toNat * 3)).off + 2, none⟩ = some (.slice A340_2 ((rd_T59 l0_0 x5_1).f2).length c340_2) ∧ w78.cell? (ad341.add ((x5_1).toNat * 3)) = some (.int .i64 ((rd_T59 l1_0 x5_1).f0)) ∧ w78.cell? ⟨(ad341.add ((x5_1).toNat * 3)).block, (ad341.add ((x5_1).toNat * 3)).off + 1, none⟩ = some (.string ((rd_T59 l1_0 x5_1).f1)) ∧ w78.cell? ⟨(ad341.add ((x5_1).toNat * 3)).block, (ad341.add ((x5_1).toNat * 3)).off + 2, none⟩ = some (.slice A341_2 ((rd_T59 l1_0 x5_1).f2).length c341_2) := hS_
        refine norm_ (a' := ?_) ?_ ?_
        rotate_left
        ·
         simp only [putAll, Act.put, List.setIfInBounds_toArray, List.set_cons_zero, List.set_cons_succ]
         rfl
        refine o1 12 none rfl rfl (fun K hK => ?_)
        have hs79 : w78.cell? ⟨gb342, 0, none⟩ = some (.int .i64 0) := (blk_cell BK342.out 0).trans rfl
        have hfs79 := blk_frozen BK342.out 0
        have hns79_0 := NB338_342.out
        have hns79_1 := NB339_342.out
        have hns79_3 := NB343_342.out
        have hms79_0 := NB342_338.out
        have hms79_1 := NB342_339.out
        have hms79_3 := NB342_343.out
        have hs80 : w78.cell? ⟨gb342, 1, none⟩ = some (.string (⟨#[]⟩ : ByteArray)) := (blk_cell BK342.out 1).trans rfl
        have hfs80 := blk_frozen BK342.out 1
        have hns80_0 := NB338_342.out
        have hns80_1 := NB339_342.out
        have hns80_3 := NB343_342.out
        have hms80_0 := NB342_338.out
        have hms80_1 := NB342_339.out
        have hms80_3 := NB342_343.out
        have hs81 : w78.cell? ⟨gb342, 2, none⟩ = some (.slice none 0 0) := (blk_cell BK342.out 2).trans rfl
        have hfs81 := blk_frozen BK342.out 2
        have hns81_0 := NB338_342.out
        have hns81_1 := NB339_342.out
        have hns81_3 := NB343_342.out
        have hms81_0 := NB342_338.out
        have hms81_1 := NB342_339.out
        have hms81_3 := NB342_343.out
        refine skip_ (w1 := ?_) (by rfl) rfl ?_ ?_
        rotate_left
        ·
         go_simp
         rfl
        refine hK.out _ _ ⟨(ct NB338_342.out ((ct NB338_342.out ((ct NB338_342.out (hHeld.1)))))), (ct NB339_342.out ((ct NB339_342.out ((ct NB339_342.out (hHeld.2.1)))))), (ct (nb hw340_0 GW342) ((ct (nb hw340_0 GW342) ((ct (nb hw340_0 GW342) (hHeld.2.2.1)))))), (ct (nb hw340_1 GW342) ((ct (nb hw340_1 GW342) ((ct (nb hw340_1 GW342) (hHeld.2.2.2.1)))))), (ct (nb hw340_2 GW342) ((ct (nb hw340_2 GW342) ((ct (nb hw340_2 GW342) (hHeld.2.2.2.2.1)))))), (ct (nb hw341_0 GW342) ((ct (nb hw341_0 GW342) ((ct (nb hw341_0 GW342) (hHeld.2.2.2.2.2.1)))))), (ct (nb hw341_1 GW342) ((ct (nb hw341_1 GW342) ((ct (nb hw341_1 GW342) (hHeld.2.2.2.2.2.2.1)))))), (ct (nb hw341_2 GW342) ((ct (nb hw341_2 GW342) ((ct (nb hw341_2 GW342) (hHeld.2.2.2.2.2.2.2))))))⟩ (fun hHeld => ?_)
        clear hK K
        refine o1 13 none rfl rfl (fun K hK => ?_)
        have hs82 : w78.cell? ⟨gb343, 0, none⟩ = some (.int .i64 0) := (blk_cell BK343.out 0).trans rfl
        have hfs82 := blk_frozen BK343.out 0
        have hns82_0 := NB338_343.out
        have hns82_1 := NB339_343.out
        have hns82_2 := NB342_343.out
        have hms82_0 := NB343_338.out
        have hms82_1 := NB343_339.out
        have hms82_2 := NB343_342.out
        have hs83 : w78.cell? ⟨gb343, 1, none⟩ = some (.string (⟨#[]⟩ : ByteArray)) := (blk_cell BK343.out 1).trans rfl
        have hfs83 := blk_frozen BK343.out 1
        have hns83_0 := NB338_343.out
        have hns83_1 := NB339_343.out
        have hns83_2 := NB342_343.out
        have hms83_0 := NB343_338.out
        have hms83_1 := NB343_339.out
        have hms83_2 := NB343_342.out
        have hs84 : w78.cell? ⟨gb343, 2, none⟩ = some (.slice none 0 0) := (blk_cell BK343.out 2).trans rfl
        have hfs84 := blk_frozen BK343.out 2
        have hns84_0 := NB338_343.out
        have hns84_1 := NB339_343.out
        have hns84_2 := NB342_343.out
        have hms84_0 := NB343_338.out
        have hms84_1 := NB343_339.out
        have hms84_2 := NB343_342.out
        refine skip_ (w1 := ?_) (by rfl) rfl ?_ ?_
        rotate_left
        ·
         go_simp
         rfl
        refine hK.out _ _ ⟨(ct NB338_343.out ((ct NB338_343.out ((ct NB338_343.out (hHeld.1)))))), (ct NB339_343.out ((ct NB339_343.out ((ct NB339_343.out (hHeld.2.1)))))), (ct (nb hw340_0 GW343) ((ct (nb hw340_0 GW343) ((ct (nb hw340_0 GW343) (hHeld.2.2.1)))))), (ct (nb hw340_1 GW343) ((ct (nb hw340_1 GW343) ((ct (nb hw340_1 GW343) (hHeld.2.2.2.1)))))), (ct (nb hw340_2 GW343) ((ct (nb hw340_2 GW343) ((ct (nb hw340_2 GW343) (hHeld.2.2.2.2.1)))))), (ct (nb hw341_0 GW343) ((ct (nb hw341_0 GW343) ((ct (nb hw341_0 GW343) (hHeld.2.2.2.2.2.1)))))), (ct (nb hw341_1 GW343) ((ct (nb hw341_1 GW343) ((ct (nb hw341_1 GW343) (hHeld.2.2.2.2.2.2.1)))))), (ct (nb hw341_2 GW343) ((ct (nb hw341_2 GW343) ((ct (nb hw341_2 GW343) (hHeld.2.2.2.2.2.2.2))))))⟩ (fun hHeld => ?_)
        clear hK K
        refine done_ (done_of HT_.out (by kernel_rfl)) ?_
        have hnb85 := NB342_338.out
        have hnc85 := NB338_342.out
        have hnb86 := NB342_339.out
        have hnc86 := NB339_342.out
        have hnb87 := NB342_343.out
        have hnc87 := NB343_342.out
        obtain ⟨hcz88_0, hcz88_1, hcz88_2, hfz88_0, hfz88_1, hfz88_2⟩ := z3 BK342
        have hnb89 := NB343_338.out
        have hnc89 := NB338_343.out
        have hnb90 := NB343_339.out
        have hnc90 := NB339_343.out
        obtain ⟨hcz91_0, hcz91_1, hcz91_2, hfz91_0, hfz91_1, hfz91_2⟩ := z3 BK343
        try go_wp2
        go_ret
        exact ⟨re_, bl⟩
      ·
       rw [if_neg c11] at H
       exact absurd H (by simp)
     ·
      rw [if_neg c10] at H
      exact absurd H (by simp)
    ·
     rw [if_neg c9] at H
     have c9b0 : decide (x5_1 < (l0_0.length : Int)) = false := decide_eq_false c9
     clear c9
     obtain rfl := Option.some.inj H
     have hnb92 := NB338_339.out
     have hnc92 := NB339_338.out
     obtain ⟨hcz93_0, hfz93_0⟩ := z1 BK338
     go_wp2
     go_ret
     exact ⟨re_, bl⟩
 ·
  rw [if_neg c3] at H
  have c3b0 : ((l0_0.length : Int) == (l1_0.length : Int)) = false := beq_eq_false_iff_ne.mpr c3
  have c3b1 : ((l0_0.length : Int) != (l1_0.length : Int)) = true := bne_iff_ne.mpr c3
  have c3b2 : (l0_0.length == l1_0.length) = false := by first | simpa using c3 | (simp at c3 ⊢; omega)
  obtain rfl := Option.some.inj H
  go_enter Try.func13, Try.ntmps13
  go_wp2_with (first | ((with_reducible refine gate_dst (N := 2) rfl ?_); refine bx (N := 2) #[.slice A0_0 l0_0.length c0_0] 24 ?_; intro gb338 hg w94 hbox hb; have BK338 := Aside0.mk (hbox); have GW338 := gw hg (uW HB.out); have GE338 := GW338; replace HB := cW HB hb; clear hb hbox hg) | ((with_reducible refine gate_dst (N := 3) rfl ?_); refine bx (N := 3) #[.slice A1_0 l1_0.length c1_0] 24 ?_; intro gb339 hg w95 hbox hb; have BK339 := Aside0.mk (hbox); have GW339 := gw hg bl; have GE339 := GW339; replace HB := Aside0.mk (below_step bl hb); have NB338_339 := Aside0.mk ((by rw [hg]; exact Nat.ne_of_lt (blk_lt (g := gb338) (o := .cells #[.slice A0_0 l0_0.length c0_0] 24 (0, 0)) (uB BK338.out)) : gb338 ≠ gb339)); have NB339_338 := Aside0.mk ((by rw [hg]; exact Nat.ne_of_gt (blk_lt (g := gb338) (o := .cells #[.slice A0_0 l0_0.length c0_0] 24 (0, 0)) (uB BK338.out)) : gb339 ≠ gb338)); replace BK338 := cB BK338 hb; clear hb hbox hg; have hnb96 := NB338_339.out; have hnc96 := NB339_338.out; obtain ⟨hcz97_0, hfz97_0⟩ := z1 BK338; obtain ⟨hcz98_0, hfz98_0⟩ := z1 BK339))
  go_ret
  exact ⟨re_, bl⟩
end Go.Proofs.Ytofaindjbhmopaa.X
