/- Printed by a program of this session's own: what functions of the program compute, and that the machine computes it. No condition of its own. -/
import Derived.Test.YtofaindjbhmopaaM3
import Derived.Test.YtofaindjbhmopaaM4
namespace Go.Proofs.Ytofaindjbhmopaa.X
open Go.RowKit Go.Proofs.YtofaindjbhmopaaW.PrintWords Go.Proofs.YtofaindjbhmopaaW.PrintLast Go.Proofs.YtofaindjbhmopaaW.PrintMore
attribute [local go_sem] max2_int min2_int max_two min_two max_three min_three max_four min_four
set_option linter.unusedVariables false
set_option linter.unusedSimpArgs false
set_option maxHeartbeats 8000000
set_option maxRecDepth 100000
attribute [local go_sem high] eqA82
def r11_Great.l0 : Nat → Int → List (S59) → Option (Bool)
 | 0, _, _ => none
 | k + 1, x3, x334000 => if x3 < (x334000.length : Int) then (if 0 ≤ x3 then (if (((rd_T59 x334000 x3).f2).length : Int) > 100 then (some true) else (if (((rd_T59 x334000 x3).f1).size : Int) > 300 then (some true) else (r11_Great.l0 k (wrap64 (x3 + 1)) x334000))) else (none)) else (some false)
def r11_Great.f (k : Nat) (l0_0 : List (S59)) : Option (Bool) := if (l0_0.length : Int) > 100 then (some true) else (r11_Great.l0 k 0 l0_0)
theorem r11_Great.mono_l : ∀ k, (∀ y0 y1, LeC (r11_Great.l0 k y0 y1) (r11_Great.l0 (k + 1) y0 y1))
 | 0 => fun _ _ => ⟨fun r h => by simp [r11_Great.l0] at h⟩
 | k + 1 => by have ih0 := r11_Great.mono_l k; exact fun _ _ => by unfold r11_Great.l0; exact lm
theorem r11_Great.mono : ∀ a0 k, LeO (r11_Great.f k a0) (r11_Great.f (k + 1) a0) := by
 intro a0 k
 have ih0 := r11_Great.mono_l k
 unfold r11_Great.f
 exact lo
instance r11_Great.mI {a0 k} : LeC (r11_Great.f k a0) (r11_Great.f (k + 1) a0) := ⟨r11_Great.mono _ _⟩
theorem r11_Great.calls (k : Nat) (A0_0 : Option Addr) (c0_0 : Nat) (l0_0 : List (S59)) (r : Bool) (w : World) (hr0_0 : Kd.C k59 w A0_0 l0_0.length l0_0) (hc0_0 : l0_0.length ≤ c0_0) (h : r11_Great.f k l0_0 = some r) :
 Calls Try.prog 9 #[.agg #[.slice A0_0 l0_0.length c0_0]] w fun e w' => e = .returned (.bool r) ∧ Below w.heap.size w w' := by
 have hu24 := Try.underlying24
 have HR0_0 := Aside0.mk hr0_0
 have HC0_0 := Aside0.mk hc0_0
 clear hr0_0 hc0_0
 have HB := Aside0.mk (Below.refl w.heap.size w)
 have H : (if (l0_0.length : Int) > 100 then (some true) else (r11_Great.l0 k 0 l0_0)) = some r := h
 clear h
 by_cases c2 : (l0_0.length : Int) > 100
 ·
  rw [if_pos c2] at H
  have c2b0 : decide (100 < (l0_0.length : Int)) = true := decide_eq_true c2
  have c2b1 : decide (100 < l0_0.length) = true := decide_eq_true (by omega)
  clear c2
  obtain rfl := Option.some.inj H
  go_enter Try.func9, Try.ntmps9
  go_wp2_with (first | ((with_reducible refine gate_dst (N := 1) rfl ?_); (try (refine gate_guard (by rfl) ?_; dsimp only)); refine bx (N := 1) #[.slice A0_0 l0_0.length c0_0] 24 ?_; intro gb333 hg w3 hbox hb; have BK333 := Aside0.mk (hbox); have GW333 := gw hg (uW HB.out); have GE333 := GW333; replace HB := cW HB hb; clear hb hbox hg; obtain ⟨hcz4_0, hfz4_0⟩ := z1 BK333))
  go_ret
  exact ⟨re_, bl⟩
 ·
  rw [if_neg c2] at H
  have c2b0 : decide (100 < (l0_0.length : Int)) = false := decide_eq_false c2
  have c2b1 : decide (100 < l0_0.length) = false := decide_eq_false (by omega)
  clear c2
  have H' := Aside0.mk H
  clear H
  go_enter Try.func9, Try.ntmps9
  go_wp2_with (first | ((with_reducible refine gate_dst (N := 1) rfl ?_); (try (refine gate_guard (by rfl) ?_; dsimp only)); refine bx (N := 1) #[.slice A0_0 l0_0.length c0_0] 24 ?_; intro gb333 hg w5 hbox hb; have BK333 := Aside0.mk (hbox); have GW333 := gw hg (uW HB.out); have GE333 := GW333; replace HB := cW HB hb; clear hb hbox hg; obtain ⟨hcz6_0, hfz6_0⟩ := z1 BK333))
  go_loopg [3] k (fun kq v3 w' => ∃ (x3_1 : Int), v3 = .int .i64 x3_1 ∧ Aside0 (r11_Great.l0 kq x3_1 l0_0 = some r) ∧ Aside0 (kq ≤ k) ∧ Aside0 (w'.heap[gb333]? = some (.cells #[(.slice A0_0 l0_0.length c0_0)] 24 (0, 0))) ∧ Aside0 (Below w.heap.size w w'))
  case atStart => exact ⟨(0), rs_, H', ⟨Nat.le_refl _⟩, ⟨uB BK333.out⟩, ⟨bl⟩⟩
  case round =>
   clear H'
   try clear c2
   try clear c2b0
   try clear c2b1
   try clear p2
   try clear hcz4_0
   try clear hcz6_0
   try clear hfz4_0
   try clear hfz6_0
   obtain ⟨x3_1, rfl, HA, HK1, BK333, HB⟩ := hrel
   cases gk with
   | zero => exact absurd HA.out (by simp [r11_Great.l0])
   | succ k1 =>
    have H := HA.out
    clear HA
    simp only [r11_Great.l0] at H
    by_cases c7 : x3_1 < (l0_0.length : Int)
    ·
     rw [if_pos c7] at H
     have c7b0 : decide (x3_1 < (l0_0.length : Int)) = true := decide_eq_true c7
     clear c7
     obtain ⟨c8b0, H⟩ := gdd H
     by_cases c9 : (((rd_T59 l0_0 x3_1).f2).length : Int) > 100
     ·
      rw [if_pos c9] at H
      have c9b0 : decide (100 < (((rd_T59 l0_0 x3_1).f2).length : Int)) = true := decide_eq_true c9
      have c9b1 : decide (100 < ((rd_T59 l0_0 x3_1).f2).length) = true := decide_eq_true (by omega)
      clear c9
      obtain rfl := Option.some.inj H
      obtain ⟨hcz10_0, hfz10_0⟩ := z1 BK333
      have p334 : 0 ≤ (x3_1 : Int) := od
      have q334 : x3_1 < (l0_0.length : Int) := od
      obtain ⟨ad334, A334_2, c334_2, e334, hx334_0, hx334_1, hx334_2, hl334_2, hi334_2⟩ := at_T59 HR0_0.out x3_1 p334 q334
      cases e334
      replace hx334_0 := kc HB hx334_0
      replace hx334_1 := kc HB hx334_1
      replace hx334_2 := kc HB hx334_2
      have HR334_2 := Aside0.mk hi334_2
      have HC334_2 := Aside0.mk hl334_2
      clear hi334_2 hl334_2
      replace p334 := eq_true p334
      replace q334 := eq_true q334
      go_wp2
      go_ret
      exact ⟨re_, bl⟩
     ·
      rw [if_neg c9] at H
      have c9b0 : decide (100 < (((rd_T59 l0_0 x3_1).f2).length : Int)) = false := decide_eq_false c9
      have c9b1 : decide (100 < ((rd_T59 l0_0 x3_1).f2).length) = false := decide_eq_false (by omega)
      clear c9
      by_cases c11 : (((rd_T59 l0_0 x3_1).f1).size : Int) > 300
      ·
       rw [if_pos c11] at H
       have c11b0 : decide (300 < (((rd_T59 l0_0 x3_1).f1).size : Int)) = true := decide_eq_true c11
       have c11b1 : decide (300 < ((rd_T59 l0_0 x3_1).f1).size) = true := decide_eq_true (by omega)
       clear c11
       obtain rfl := Option.some.inj H
       obtain ⟨hcz12_0, hfz12_0⟩ := z1 BK333
       have p334 : 0 ≤ (x3_1 : Int) := od
       have q334 : x3_1 < (l0_0.length : Int) := od
       obtain ⟨ad334, A334_2, c334_2, e334, hx334_0, hx334_1, hx334_2, hl334_2, hi334_2⟩ := at_T59 HR0_0.out x3_1 p334 q334
       cases e334
       replace hx334_0 := kc HB hx334_0
       replace hx334_1 := kc HB hx334_1
       replace hx334_2 := kc HB hx334_2
       have HR334_2 := Aside0.mk hi334_2
       have HC334_2 := Aside0.mk hl334_2
       clear hi334_2 hl334_2
       replace p334 := eq_true p334
       replace q334 := eq_true q334
       have p335 : 0 ≤ (x3_1 : Int) := od
       have q335 : x3_1 < (l0_0.length : Int) := od
       obtain ⟨ad335, A335_2, c335_2, e335, hx335_0, hx335_1, hx335_2, hl335_2, hi335_2⟩ := at_T59 HR0_0.out x3_1 p335 q335
       obtain rfl : ad334 = ad335 := (by injection e335)
       replace hx335_0 := kc HB hx335_0
       replace hx335_1 := kc HB hx335_1
       replace hx335_2 := kc HB hx335_2
       have HR335_2 := Aside0.mk hi335_2
       have HC335_2 := Aside0.mk hl335_2
       clear hi335_2 hl335_2
       replace p335 := eq_true p335
       replace q335 := eq_true q335
       have ea_ := Option.some.inj (hx334_2.symm.trans hx335_2)
       injection ea_ with ea_ en_ ec_
       subst ea_
       subst ec_
       clear en_
       go_wp2
       go_ret
       exact ⟨re_, bl⟩
      ·
       rw [if_neg c11] at H
       have c11b0 : decide (300 < (((rd_T59 l0_0 x3_1).f1).size : Int)) = false := decide_eq_false c11
       have c11b1 : decide (300 < ((rd_T59 l0_0 x3_1).f1).size) = false := decide_eq_false (by omega)
       clear c11
       have H' := Aside0.mk H
       clear H
       obtain ⟨hcz13_0, hfz13_0⟩ := z1 BK333
       have p334 : 0 ≤ (x3_1 : Int) := od
       have q334 : x3_1 < (l0_0.length : Int) := od
       obtain ⟨ad334, A334_2, c334_2, e334, hx334_0, hx334_1, hx334_2, hl334_2, hi334_2⟩ := at_T59 HR0_0.out x3_1 p334 q334
       cases e334
       replace hx334_0 := kc HB hx334_0
       replace hx334_1 := kc HB hx334_1
       replace hx334_2 := kc HB hx334_2
       have HR334_2 := Aside0.mk hi334_2
       have HC334_2 := Aside0.mk hl334_2
       clear hi334_2 hl334_2
       replace p334 := eq_true p334
       replace q334 := eq_true q334
       have p335 : 0 ≤ (x3_1 : Int) := od
       have q335 : x3_1 < (l0_0.length : Int) := od
       obtain ⟨ad335, A335_2, c335_2, e335, hx335_0, hx335_1, hx335_2, hl335_2, hi335_2⟩ := at_T59 HR0_0.out x3_1 p335 q335
       obtain rfl : ad334 = ad335 := (by injection e335)
       replace hx335_0 := kc HB hx335_0
       replace hx335_1 := kc HB hx335_1
       replace hx335_2 := kc HB hx335_2
       have HR335_2 := Aside0.mk hi335_2
       have HC335_2 := Aside0.mk hl335_2
       clear hi335_2 hl335_2
       replace p335 := eq_true p335
       replace q335 := eq_true q335
       have ea_ := Option.some.inj (hx334_2.symm.trans hx335_2)
       injection ea_ with ea_ en_ ec_
       subst ea_
       subst ec_
       clear en_
       go_wp2
       go_roundg k1
       case measure => have := HK1.out; omega
       case rel => exact ⟨(wrap64 (x3_1 + 1)), rs_, H', ⟨by have := HK1.out; omega⟩, ⟨uB BK333.out⟩, ⟨bl⟩⟩
    ·
     rw [if_neg c7] at H
     have c7b0 : decide (x3_1 < (l0_0.length : Int)) = false := decide_eq_false c7
     clear c7
     obtain rfl := Option.some.inj H
     obtain ⟨hcz14_0, hfz14_0⟩ := z1 BK333
     go_wp2
     go_ret
     exact ⟨re_, bl⟩
def r11_Copy.l0 : Nat → List (S59) → Int → List (S59) → Option ((List (S59)))
 | 0, _, _, _ => none
 | k + 1, x3, x4, x337000 => if x4 < (x337000.length : Int) then (if 0 ≤ x4 then ((some (([] : List (S82)) : List (S82))).bind fun y340 => (if y340.length + ((rd_T59 x337000 x4).f2).length < 2932031007402 then (if x3.length < 2932031007402 then (r11_Copy.l0 k (x3 ++ [(⟨(rd_T59 x337000 x4).f0, (rd_T59 x337000 x4).f1, (y340 ++ ((rd_T59 x337000 x4).f2))⟩ : S59)]) (wrap64 (x4 + 1)) x337000) else (none)) else (none))) else (none)) else (some x3)
def r11_Copy.f (k : Nat) (l0_0 : List (S59)) : Option ((List (S59))) := r11_Copy.l0 k ([] : List (S59)) 0 l0_0
theorem r11_Copy.mono_l : ∀ k, (∀ y0 y1 y2, LeC (r11_Copy.l0 k y0 y1 y2) (r11_Copy.l0 (k + 1) y0 y1 y2))
 | 0 => fun _ _ _ => ⟨fun r h => by simp [r11_Copy.l0] at h⟩
 | k + 1 => by have ih0 := r11_Copy.mono_l k; exact fun _ _ _ => by unfold r11_Copy.l0; exact lm
theorem r11_Copy.mono : ∀ a0 k, LeO (r11_Copy.f k a0) (r11_Copy.f (k + 1) a0) := by
 intro a0 k
 have ih0 := r11_Copy.mono_l k
 unfold r11_Copy.f
 exact lo
instance r11_Copy.mI {a0 k} : LeC (r11_Copy.f k a0) (r11_Copy.f (k + 1) a0) := ⟨r11_Copy.mono _ _⟩
theorem r11_Copy.calls (k : Nat) (A0_0 : Option Addr) (c0_0 : Nat) (l0_0 : List (S59)) (r : List (S59)) (w : World) (hr0_0 : Kd.C k59 w A0_0 l0_0.length l0_0) (hc0_0 : l0_0.length ≤ c0_0) (h : r11_Copy.f k l0_0 = some r) :
 Calls Try.prog 10 #[.agg #[.slice A0_0 l0_0.length c0_0]] w fun e w' => ∃ v0_ : Value, e = .returned (.agg #[v0_]) ∧ Kd.S k59 59 w' w.heap.size (fun _ => True) v0_ r ∧ Below w.heap.size w w' := by
 have hu24 := Try.underlying24
 have hu59 := Try.underlying59
 have HR0_0 := Aside0.mk hr0_0
 have HC0_0 := Aside0.mk hc0_0
 clear hr0_0 hc0_0
 have HB := Aside0.mk (Below.refl w.heap.size w)
 have H : (r11_Copy.l0 k ([] : List (S59)) 0 l0_0) = some r := h
 clear h
 have H' := Aside0.mk H
 clear H
 go_enter Try.func10, Try.ntmps10
 go_wp2_with (first | ((with_reducible refine gate_dst (N := 1) rfl ?_); refine bx (N := 1) #[.slice A0_0 l0_0.length c0_0] 24 ?_; intro gb336 hg w2 hbox hb; have BK336 := Aside0.mk (hbox); have GW336 := gw hg (uW HB.out); have GE336 := GW336; replace HB := cW HB hb; clear hb hbox hg) | ((with_reducible refine gate_dst (N := 2) rfl ?_); refine bx (N := 2) #[.slice none 0 0] 24 ?_; intro gb337 hg w3 hbox hb; have BK337 := Aside0.mk (hbox); have GW337 := gw hg bl; have GE337 := GW337; replace HB := Aside0.mk (below_step bl hb); have NB336_337 := Aside0.mk ((by rw [hg]; exact Nat.ne_of_lt (blk_lt (g := gb336) (o := .cells #[.slice A0_0 l0_0.length c0_0] 24 (0, 0)) (uB BK336.out)) : gb336 ≠ gb337)); have NB337_336 := Aside0.mk ((by rw [hg]; exact Nat.ne_of_gt (blk_lt (g := gb336) (o := .cells #[.slice A0_0 l0_0.length c0_0] 24 (0, 0)) (uB BK336.out)) : gb337 ≠ gb336)); replace BK336 := cB BK336 hb; clear hb hbox hg))
 go_loopg [3, 4] k (fun kq v3 v4 w' => ∃ (x3_1 : List (S59)) (x4_1 : Int), v4 = .int .i64 x4_1 ∧ Aside0 (r11_Copy.l0 kq x3_1 x4_1 l0_0 = some r) ∧ Aside0 (kq ≤ k) ∧ Aside0 (Kd.S k59 59 w' w.heap.size (fun _ => True) v3 x3_1) ∧ Aside0 (w'.heap[gb336]? = some (.cells #[(.slice A0_0 l0_0.length c0_0)] 24 (0, 0))) ∧ Aside0 (w'.heap[gb337]? = some (.cells #[(.slice none 0 0)] 24 (0, 0))) ∧ Aside0 (Below w.heap.size w w'))
 case atStart => exact ⟨(([] : List (S59))), (0), rs_, H', ⟨Nat.le_refl _⟩, ⟨by first | exact Kd.S_nil _ _ _ _ _ | exact Kd.N_nil _ _ _ _ _ | exact Kd.V_nil _ _ _ _ _ | exact Kd.Q_nil _ _ _ _ _ | exact Kd.R_nil _ _ _ _ _⟩, ⟨uB BK336.out⟩, ⟨uB BK337.out⟩, ⟨bl⟩⟩
 case round =>
  clear H'
  try clear c1
  try clear p2
  obtain ⟨x3_1, x4_1, rfl, HA, HK1, HO_3, BK336, BK337, HB⟩ := hrel
  cases gk with
  | zero => exact absurd HA.out (by simp [r11_Copy.l0])
  | succ k1 =>
   have H := HA.out
   clear HA
   simp only [r11_Copy.l0] at H
   by_cases c4 : x4_1 < (l0_0.length : Int)
   ·
    rw [if_pos c4] at H
    have c4b0 : decide (x4_1 < (l0_0.length : Int)) = true := decide_eq_true c4
    clear c4
    obtain ⟨c5b0, H⟩ := gdd H
    obtain ⟨y340, Ny340, H⟩ := ys H
    try dsimp only at H
    obtain ⟨c6, H⟩ := gd H
    have LMc6 := Aside0.mk c6
    clear c6
    obtain ⟨y343, hy343⟩ : ∃ y_ : List (S82), y_ = (y340 ++ ((rd_T59 l0_0 x4_1).f2)) := ⟨_, rfl⟩
    replace H : (if x3_1.length < 2932031007402 then (r11_Copy.l0 k1 (x3_1 ++ [(⟨(rd_T59 l0_0 x4_1).f0, (rd_T59 l0_0 x4_1).f1, y343⟩ : S59)]) (wrap64 (x4_1 + 1)) l0_0) else (none)) = some r := by first | (rw [hy343]; with_reducible exact H) | (have H2_ := (Option.bind_some _ _).symm.trans H; rw [hy343]; with_reducible exact H2_) | (have H2_ := (Option.bind_some _ _).symm.trans H; with_reducible exact H2_) | with_reducible exact H | (rw [hy343]; exact H) | exact H
    have Ny343 := Aside0.mk hy343
    clear hy343
    obtain ⟨c7, H⟩ := gd H
    have LMc7 := Aside0.mk c7
    clear c7
    obtain ⟨y346, hy346⟩ : ∃ y_ : List (S59), y_ = (x3_1 ++ [(⟨(rd_T59 l0_0 x4_1).f0, (rd_T59 l0_0 x4_1).f1, y343⟩ : S59)]) := ⟨_, rfl⟩
    replace H : (r11_Copy.l0 k1 y346 (wrap64 (x4_1 + 1)) l0_0) = some r := by first | (rw [hy346]; with_reducible exact H) | (have H2_ := (Option.bind_some _ _).symm.trans H; rw [hy346]; with_reducible exact H2_) | (have H2_ := (Option.bind_some _ _).symm.trans H; with_reducible exact H2_) | with_reducible exact H | (rw [hy346]; exact H) | exact H
    have Ny346 := Aside0.mk hy346
    clear hy346
    have H' := Aside0.mk H
    clear H
    have hnb8 := NB336_337.out
    have hnc8 := NB337_336.out
    obtain ⟨hcz9_0, hfz9_0⟩ := z1 BK336
    have p338 : 0 ≤ (x4_1 : Int) := od
    have q338 : x4_1 < (l0_0.length : Int) := od
    obtain ⟨ad338, A338_2, c338_2, e338, hx338_0, hx338_1, hx338_2, hl338_2, hi338_2⟩ := at_T59 HR0_0.out x4_1 p338 q338
    cases e338
    replace hx338_0 := kc HB hx338_0
    replace hx338_1 := kc HB hx338_1
    replace hx338_2 := kc HB hx338_2
    have HR338_2 := Aside0.mk hi338_2
    have HC338_2 := Aside0.mk hl338_2
    clear hi338_2 hl338_2
    replace p338 := eq_true p338
    replace q338 := eq_true q338
    go_wp2_with (first | ((with_reducible refine gate_dst (N := 5) rfl ?_); refine bx (N := 5) #[.int .i64 0, .string (⟨#[]⟩ : ByteArray), .slice none 0 0] 59 ?_; intro gb339 hg w10 hbox hb; replace HO_3 := Aside0.mk (Kd.S_below (Kd.S_elderB (uS HO_3.out) gb339 (Nat.le_of_eq hg.symm)) hb); have BK339 := Aside0.mk (hbox); have GW339 := gw hg bl; have GE339 := GW339; replace HB := Aside0.mk (below_step bl hb); have NB336_339 := Aside0.mk ((by rw [hg]; exact Nat.ne_of_lt (blk_lt (g := gb336) (o := .cells #[.slice (some ad338) l0_0.length c0_0] 24 (0, 0)) (uB BK336.out)) : gb336 ≠ gb339)); have NB339_336 := Aside0.mk ((by rw [hg]; exact Nat.ne_of_gt (blk_lt (g := gb336) (o := .cells #[.slice (some ad338) l0_0.length c0_0] 24 (0, 0)) (uB BK336.out)) : gb339 ≠ gb336)); replace BK336 := cB BK336 hb; have NB337_339 := Aside0.mk ((by rw [hg]; exact Nat.ne_of_lt (blk_lt (g := gb337) (o := .cells #[.slice none 0 0] 24 (0, 0)) (uB BK337.out)) : gb337 ≠ gb339)); have NB339_337 := Aside0.mk ((by rw [hg]; exact Nat.ne_of_gt (blk_lt (g := gb337) (o := .cells #[.slice none 0 0] 24 (0, 0)) (uB BK337.out)) : gb339 ≠ gb337)); replace BK337 := cB BK337 hb; clear hb hbox hg; have hnb11 := NB339_336.out; have hnc11 := NB336_339.out; have hnb12 := NB339_337.out; have hnc12 := NB337_339.out; obtain ⟨hcz13_0, hcz13_1, hcz13_2, hfz13_0, hfz13_1, hfz13_2⟩ := z3 BK339) | ((with_reducible refine gate_dst (N := 18) rfl ?_); refine Kd.R_lit k82 _ 82 ?hg (N := 18) ?hd (xs := ([] : List (S82))) (inner := []) (ok := fun _ => True) (okp := fun _ => True) ?hr ?hp (fun _ hk => hk) trivial (Below.refl _ _) (Nat.le_refl _) (by simp) ?_; (case hd => rfl); (case hg => rfl); (case hr => first | (go_simp; done) | (go_simp; rfl)); (case hp => exact (Reps.none _ _)); intro v341 w14 ho15 hb hg_ hnew_; clear hg_ hnew_; (first | rw [← Ny340.out] at ho15 | (simp only [Int.reduceToNat] at ho15; rw [← Ny340.out] at ho15)); replace HO_3 := Aside0.mk (Kd.S_elder' (by exact uS <| (Kd.S_mono (Kd.S_far (p := ⟨gb339, 2, none⟩) (Kd.S_far (p := ⟨gb339, 1, none⟩) (Kd.S_far (p := ⟨gb339, 0, none⟩) (Kd.S_mono HO_3.out (fun k_ hk => (⟨hk, hk.2⟩ : _ ∧ k_ ≠ gb339))) (fun _ hk => hk.2) (.int .i64 ((rd_T59 l0_0 x4_1).f0))) (fun _ hk => hk.2) (.string ((rd_T59 l0_0 x4_1).f1))) (fun _ hk => hk.2) (.slice A338_2 ((rd_T59 l0_0 x4_1).f2).length c338_2)) (fun _ h_ => h_.1))) (Kd.R_base ho15) hb); have HO342 := Aside0.mk (Kd.R_lower ho15 (below_size bl)); replace BK336 := Aside0.mk (blk_below (g := gb336) (o := .cells #[.slice (some ad338) l0_0.length c0_0] 24 (0, 0)) (by (with_reducible repeat (first | refine blk_drewN ?_ _ | refine blk_drew ?_ | refine blk_alloc ?_ _)); refine blk_far ?_ NB336_339.out _; (with_reducible repeat (first | refine blk_drewN ?_ _ | refine blk_drew ?_ | refine blk_alloc ?_ _)); refine blk_far ?_ NB336_339.out _; (with_reducible repeat (first | refine blk_drewN ?_ _ | refine blk_drew ?_ | refine blk_alloc ?_ _)); refine blk_far ?_ NB336_339.out _; exact uB <| BK336.out) hb); replace BK337 := Aside0.mk (blk_below (g := gb337) (o := .cells #[.slice none 0 0] 24 (0, 0)) (by (with_reducible repeat (first | refine blk_drewN ?_ _ | refine blk_drew ?_ | refine blk_alloc ?_ _)); refine blk_far ?_ NB337_339.out _; (with_reducible repeat (first | refine blk_drewN ?_ _ | refine blk_drew ?_ | refine blk_alloc ?_ _)); refine blk_far ?_ NB337_339.out _; (with_reducible repeat (first | refine blk_drewN ?_ _ | refine blk_drew ?_ | refine blk_alloc ?_ _)); refine blk_far ?_ NB337_339.out _; exact uB <| BK337.out) hb); replace BK339 := Aside0.mk (blk_below (g := gb339) (o := .cells #[.int .i64 ((rd_T59 l0_0 x4_1).f0), .string ((rd_T59 l0_0 x4_1).f1), .slice A338_2 ((rd_T59 l0_0 x4_1).f2).length c338_2] 59 (0, 0)) (by (with_reducible repeat (first | refine blk_drewN ?_ _ | refine blk_drew ?_ | refine blk_alloc ?_ _)); refine blk_put (cs := #[.int .i64 ((rd_T59 l0_0 x4_1).f0), .string ((rd_T59 l0_0 x4_1).f1), .slice none 0 0]) ?_ 2 _ rfl; (with_reducible repeat (first | refine blk_drewN ?_ _ | refine blk_drew ?_ | refine blk_alloc ?_ _)); refine blk_put (cs := #[.int .i64 ((rd_T59 l0_0 x4_1).f0), .string (⟨#[]⟩ : ByteArray), .slice none 0 0]) ?_ 1 _ rfl; (with_reducible repeat (first | refine blk_drewN ?_ _ | refine blk_drew ?_ | refine blk_alloc ?_ _)); refine blk_put (cs := #[.int .i64 0, .string (⟨#[]⟩ : ByteArray), .slice none 0 0]) ?_ 0 _ rfl; exact uB <| BK339.out) hb); replace HB := Aside0.mk (below_step bl hb); clear hb ho15; obtain ⟨hcz16_0, hcz16_1, hcz16_2, hfz16_0, hfz16_1, hfz16_2⟩ := z3 BK339) | ((with_reducible refine gate_builtin (b := .append) (xs := #[.tmp 18, .tmp 20]) rfl ?_); at_builtin; refine Kd.R_append_rows k82 (w0 := w) w.heap.size rfl (.tmp 18) (.tmp 20) 57 82 (.agg #[(.int .i64 0), (.int .i64 0), (.int .i64 0), (.bool false), (.int .i64 0), (.int .i64 0)]) 48 rfl Try.underlying57 info82 rfl (by decide) (by omega) v341 y340 ((rd_T59 l0_0 x4_1).f2) _ _ _ (fun _ => True) (fun _ => False) rfl rfl ?aO ?aR (fun _ _ h => h) (fun _ h => h.elim) ?aF ?aB ?aS ?aL ?_; (case aR => exact uC <| (Kd.C_below HR338_2.out HB.out)); (case aB => exact bl); (case aF => exact (fun _ _ => trivial)); (case aO => exact (uR HO342.out)); (case aS => exact (below_size bl)); (case aL => have := LMc6.out; omega); intro v344 w17 ho hb hg hat; rw [← Ny343.out] at ho; replace HO_3 := Aside0.mk (Kd.S_after (ok := (fun k_ => k_ ≠ gb339)) (by exact uS <| Kd.S_mono HO_3.out (fun _ hk => ⟨hk.1.2, hk.2⟩)) hg hat); replace BK336 := Aside0.mk (blk_grown (g := gb336) (o := .cells #[.slice (some ad338) l0_0.length c0_0] 24 (0, 0)) (uB BK336.out) hg (Kd.R_ne HO342.out BK336.out (by decide))); replace BK337 := Aside0.mk (blk_grown (g := gb337) (o := .cells #[.slice none 0 0] 24 (0, 0)) (uB BK337.out) hg (Kd.R_ne HO342.out BK337.out (by decide))); replace BK339 := Aside0.mk (blk_grown (g := gb339) (o := .cells #[.int .i64 ((rd_T59 l0_0 x4_1).f0), .string ((rd_T59 l0_0 x4_1).f1), .slice A338_2 ((rd_T59 l0_0 x4_1).f2).length c338_2] 59 (0, 0)) (uB BK339.out) hg (Kd.R_ne HO342.out BK339.out (by decide))); replace HB := Aside0.mk (hb); have HO345 := Aside0.mk (ho); clear HO342; clear ho hb hg hat; obtain ⟨Ao18, co18, eo18⟩ := Kd.R_slice HO345.out; subst eo18; obtain ⟨hcz19_0, hcz19_1, hcz19_2, hfz19_0, hfz19_1, hfz19_2⟩ := z3 BK339) | ((with_reducible refine gate_store (t := 57) (p := 22) rfl ?_); refine store_event (t := 57) (p := 22) (v := ?vo_w20) (w1 := (w17.setCell ⟨gb339, 2, none⟩ (.slice Ao18 y343.length co18))) ?hg ?ho ?hn ?hr ?_; (case ho => rfl); (case hg => rfl); (case hn => rfl); (case hr => first | (go_simp; done) | (go_simp; rfl)); intro w20 hw; have n0_ : Aside0 (Kd.S k59 59 w20 w.heap.size (fun k_ => some k_ ≠ (.slice Ao18 y343.length co18 : Value).ownBlock ∧ k_ ≠ gb339) u3 x3_1) := ⟨(by rw [hw]; exact (by exact uS <| Kd.S_mono (Kd.S_far (p := ⟨gb339, 2, none⟩) (Kd.S_mono HO_3.out (fun k_ hk => (⟨hk, hk.1⟩ : _ ∧ k_ ≠ gb339))) (fun _ hk => hk.2) (.slice Ao18 y343.length co18)) (fun _ hk => ⟨hk.1.2, hk.1.1⟩)))⟩; have n1_ : Aside0 (Kd.R k82 82 w20 w.heap.size (fun _ => True) (.slice Ao18 y343.length co18) y343) := ⟨(by rw [hw]; exact (by exact uR <| Kd.R_mono (Kd.R_far (p := ⟨gb339, 2, none⟩) (Kd.R_types HO345.out BK339.out (by decide)) (fun _ hk => hk.2) (.slice Ao18 y343.length co18)) (fun _ hk => trivial)))⟩; have n2_ : Aside0 (w20.heap[gb336]? = some (.cells #[.slice (some ad338) l0_0.length c0_0] 24 (0, 0))) := ⟨(by rw [hw]; exact (by (with_reducible repeat (first | refine blk_drewN ?_ _ | refine blk_drew ?_ | refine blk_alloc ?_ _)); refine blk_far ?_ NB336_339.out _; exact uB <| BK336.out))⟩; have n3_ : Aside0 (w20.heap[gb337]? = some (.cells #[.slice none 0 0] 24 (0, 0))) := ⟨(by rw [hw]; exact (by (with_reducible repeat (first | refine blk_drewN ?_ _ | refine blk_drew ?_ | refine blk_alloc ?_ _)); refine blk_far ?_ NB337_339.out _; exact uB <| BK337.out))⟩; have n4_ : Aside0 (w20.heap[gb339]? = some (.cells #[.int .i64 ((rd_T59 l0_0 x4_1).f0), .string ((rd_T59 l0_0 x4_1).f1), .slice Ao18 y343.length co18] 59 (0, 0))) := ⟨(by rw [hw]; exact (by (with_reducible repeat (first | refine blk_drewN ?_ _ | refine blk_drew ?_ | refine blk_alloc ?_ _)); refine blk_put (cs := #[.int .i64 ((rd_T59 l0_0 x4_1).f0), .string ((rd_T59 l0_0 x4_1).f1), .slice A338_2 ((rd_T59 l0_0 x4_1).f2).length c338_2]) ?_ 2 _ rfl; exact uB <| BK339.out))⟩; have n5_ : Aside0 (Below w.heap.size w w20) := ⟨(by rw [hw]; exact bl)⟩; clear hw; clear HO_3; clear HO345; clear BK336; clear BK337; clear BK339; clear HB; have HO_3 := n0_; have HO345 := n1_; have BK336 := n2_; have BK337 := n3_; have BK339 := n4_; have HB := n5_; clear n0_ n1_ n2_ n3_ n4_ n5_; obtain ⟨hcz21_0, hcz21_1, hcz21_2, hfz21_0, hfz21_1, hfz21_2⟩ := z3 BK339) | ((with_reducible refine gate_builtin (b := .append) (xs := #[.tmp 23, .tmp 25]) rfl ?_); at_builtin; refine Kd.S_append k59 (w0 := w) w.heap.size rfl (.tmp 23) (.tmp 25) 22 59 (.agg #[(.int .i64 0), (.string ⟨#[]⟩), (.slice none 0 0)]) 48 rfl Try.underlying22 info59 rfl (by decide) (by omega) u3 x3_1 (⟨(rd_T59 l0_0 x4_1).f0, (rd_T59 l0_0 x4_1).f1, y343⟩ : S59) [.int .i64 ((rd_T59 l0_0 x4_1).f0), .string ((rd_T59 l0_0 x4_1).f1), .slice Ao18 y343.length co18] (fun k_ => k_ ≠ gb339) (fun k_ => some k_ = (.slice Ao18 y343.length co18 : Value).ownBlock) rfl rfl ?aP (fun k_ hk_ => ((Kd.R_mono (ok' := fun k_ => ((fun k_ => k_ ≠ gb339)) k_ ∧ some k_ ≠ (u3 : Value).ownBlock) (Kd.R_types (Kd.R_apart' (HO345.out) (Kd.S_typed HO_3.out) (by decide)) BK339.out (by decide)) (fun k_ hk => ⟨hk.2, hk.1.2⟩))).1 k_ hk_.symm) ?aF ?aO ?aB ?aS ?aL ?_; (case aP => exact k59_mkM _ _ _ (⟨(rd_T59 l0_0 x4_1).f0, (rd_T59 l0_0 x4_1).f1, y343⟩ : S59) (Kd.R_mono (Kd.R_tight rfl (Kd.R_mono (ok' := fun k_ => ((fun k_ => k_ ≠ gb339)) k_ ∧ some k_ ≠ (u3 : Value).ownBlock) (Kd.R_types (Kd.R_apart' (HO345.out) (Kd.S_typed HO_3.out) (by decide)) BK339.out (by decide)) (fun k_ hk => ⟨hk.2, hk.1.2⟩))) (fun _ h_ => h_))); (case aB => exact bl); (case aF => exact (fun k_ hk => Kd.freshB (g := gb339) (o := .cells #[.int .i64 ((rd_T59 l0_0 x4_1).f0), .string ((rd_T59 l0_0 x4_1).f1), .slice Ao18 y343.length co18] 59 (0, 0)) (uB BK339.out) k_ hk)); (case aO => exact (by exact uS <| Kd.S_mono HO_3.out (fun k_ hk => ⟨hk.2, fun e_ => hk.1 e_⟩))); (case aS => exact (below_size bl)); (case aL => have := LMc7.out; omega); intro v347 w22 ho hb hg hat; rw [← Ny346.out] at ho; replace BK336 := Aside0.mk (blk_grown (g := gb336) (o := .cells #[.slice (some ad338) l0_0.length c0_0] 24 (0, 0)) (uB BK336.out) hg (Kd.S_ne HO_3.out BK336.out (by decide))); replace BK337 := Aside0.mk (blk_grown (g := gb337) (o := .cells #[.slice none 0 0] 24 (0, 0)) (uB BK337.out) hg (Kd.S_ne HO_3.out BK337.out (by decide))); replace BK339 := Aside0.mk (blk_grown (g := gb339) (o := .cells #[.int .i64 ((rd_T59 l0_0 x4_1).f0), .string ((rd_T59 l0_0 x4_1).f1), .slice Ao18 y343.length co18] 59 (0, 0)) (uB BK339.out) hg (Kd.S_away HO_3.out (fun _ hk => hk.2))); replace HB := Aside0.mk (hb); have HO348 := Aside0.mk (ho); clear HO_3; clear HO345; clear ho hb hg hat))
    go_roundg k1
    case measure => have := HK1.out; omega
    case rel => exact ⟨(y346), (wrap64 (x4_1 + 1)), rs_, H', ⟨by have := HK1.out; omega⟩, ⟨by exact uS <| Kd.S_mono HO348.out (fun _ hk => trivial)⟩, ⟨uB BK336.out⟩, ⟨uB BK337.out⟩, ⟨bl⟩⟩
   ·
    rw [if_neg c4] at H
    have c4b0 : decide (x4_1 < (l0_0.length : Int)) = false := decide_eq_false c4
    clear c4
    obtain rfl := Option.some.inj H
    have hnb23 := NB336_337.out
    have hnc23 := NB337_336.out
    obtain ⟨hcz24_0, hfz24_0⟩ := z1 BK336
    obtain ⟨Ao25, co25, eo25⟩ := Kd.S_slice HO_3.out
    subst eo25
    obtain ⟨hcz26_0, hfz26_0⟩ := z1 BK337
    go_wp2
    refine bodyPost_ret (results_cell_row rfl _ _ gb337 24 #[.slice Ao25 x3_1.length co25] (0, 0) _ rfl (by (with_reducible repeat (first | refine blk_drewN ?_ _ | refine blk_drew ?_ | refine blk_alloc ?_ _)); refine blk_put (cs := #[.slice none 0 0]) ?_ 0 _ rfl; exact uB <| BK337.out) Try.underlying24 rfl (by kernel_rfl)) rfl ?_
    exact ⟨_, re_, by exact uS <| Kd.S_mono (Kd.S_far (p := ⟨gb337, 0, none⟩) (Kd.S_types HO_3.out BK337.out (by decide)) (fun _ hk => hk.2) (.slice Ao25 x3_1.length co25)) (fun _ hk => trivial), bl⟩
def r10_Same.l0 : Nat → List (S82) → List (S82) → Int → Option (Bool)
 | 0, _, _, _ => none
 | k + 1, x0, x1, x5 => if x5 < (x0.length : Int) then (if 0 ≤ x5 then (if x5 < (x1.length : Int) then (if (!(((rd_T82 x0 x5).f0) == ((rd_T82 x1 x5).f0)) || ((!(((rd_T82 x0 x5).f1.f0) == ((rd_T82 x1 x5).f1.f0)) || ((!(((rd_T82 x0 x5).f1.f1.f0) == ((rd_T82 x1 x5).f1.f1.f0)) || (!(((rd_T82 x0 x5).f1.f1.f1) == ((rd_T82 x1 x5).f1.f1.f1)))) || (!(((rd_T82 x0 x5).f1.f2) == ((rd_T82 x1 x5).f1.f2)) || (!(((rd_T82 x0 x5).f1.f3) == ((rd_T82 x1 x5).f1.f3)))))))) = true then (some false) else (r10_Same.l0 k x0 x1 (wrap64 (x5 + 1)))) else (none)) else (none)) else (some true)
def r10_Same.f (k : Nat) (l0 : List (S82)) (l1 : List (S82)) : Option (Bool) := if (l0.length : Int) = (l1.length : Int) then (r10_Same.l0 k l0 l1 0) else (some false)
theorem r10_Same.mono_l : ∀ k, (∀ y0 y1 y2, LeC (r10_Same.l0 k y0 y1 y2) (r10_Same.l0 (k + 1) y0 y1 y2))
 | 0 => fun _ _ _ => ⟨fun r h => by simp [r10_Same.l0] at h⟩
 | k + 1 => by have ih0 := r10_Same.mono_l k; exact fun _ _ _ => by unfold r10_Same.l0; exact lm
theorem r10_Same.mono : ∀ a0 a1 k, LeO (r10_Same.f k a0 a1) (r10_Same.f (k + 1) a0 a1) := by
 intro a0 a1 k
 have ih0 := r10_Same.mono_l k
 unfold r10_Same.f
 exact lo
instance r10_Same.mI {a0 a1 k} : LeC (r10_Same.f k a0 a1) (r10_Same.f (k + 1) a0 a1) := ⟨r10_Same.mono _ _ _⟩
theorem r10_Same.calls (k : Nat) (A0 : Option Addr) (c0 : Nat) (l0 : List (S82)) (A1 : Option Addr) (c1 : Nat) (l1 : List (S82)) (r : Bool) (w : World) (hr0 : Kd.C k82 w A0 l0.length l0) (hc0 : l0.length ≤ c0) (hr1 : Kd.C k82 w A1 l1.length l1) (hc1 : l1.length ≤ c1) (h : r10_Same.f k l0 l1 = some r) :
 Calls Try.prog 32 #[.slice A0 l0.length c0, .slice A1 l1.length c1] w fun e w' => e = .returned (.bool r) ∧ Drawn0 w w' := by
 have hu82 := Try.underlying82
 have HR0 := Aside0.mk hr0
 have HC0 := Aside0.mk hc0
 clear hr0 hc0
 have HR1 := Aside0.mk hr1
 have HC1 := Aside0.mk hc1
 clear hr1 hc1
 have H : (if (l0.length : Int) = (l1.length : Int) then (r10_Same.l0 k l0 l1 0) else (some false)) = some r := h
 clear h
 by_cases c3 : (l0.length : Int) = (l1.length : Int)
 ·
  rw [if_pos c3] at H
  have c3b0 : ((l0.length : Int) == (l1.length : Int)) = true := beq_iff_eq.mpr c3
  have c3b1 : ((l0.length : Int) != (l1.length : Int)) = false := bne_eq_false_iff_eq.mpr c3
  have c3b2 : (l0.length == l1.length) = true := by first | simpa using c3 | (simp at c3 ⊢; omega)
  clear c3
  have H' := Aside0.mk H
  clear H
  go_enter Try.func32, Try.ntmps32
  go_wp2
  repeat (go_quiet (fail); try go_wp2)
  go_loopg [5] k (fun kq v5 w' => ∃ (x5_1 : Int), v5 = .int .i64 x5_1 ∧ Aside0 (r10_Same.l0 kq l0 l1 x5_1 = some r) ∧ Aside0 (kq ≤ k) ∧ Drawn0 w w')
  case atStart => exact ⟨(0), rs_, H', ⟨Nat.le_refl _⟩, dr_⟩
  case round =>
   clear H'
   try clear c1
   try clear p2
   try clear c3
   try clear c3b0
   try clear c3b1
   try clear c3b2
   obtain ⟨x5_1, rfl, HA, HK1, ⟨m1, rfl⟩⟩ := hrel
   cases gk with
   | zero => exact absurd HA.out (by simp [r10_Same.l0])
   | succ k1 =>
    have H := HA.out
    clear HA
    simp only [r10_Same.l0] at H
    by_cases c4 : x5_1 < (l0.length : Int)
    ·
     rw [if_pos c4] at H
     have c4b0 : decide (x5_1 < (l0.length : Int)) = true := decide_eq_true c4
     clear c4
     obtain ⟨c5b0, H⟩ := gdd H
     obtain ⟨c6b0, H⟩ := gdd H
     by_cases c7 : (!(((rd_T82 l0 x5_1).f0) == ((rd_T82 l1 x5_1).f0)) || ((!(((rd_T82 l0 x5_1).f1.f0) == ((rd_T82 l1 x5_1).f1.f0)) || ((!(((rd_T82 l0 x5_1).f1.f1.f0) == ((rd_T82 l1 x5_1).f1.f1.f0)) || (!(((rd_T82 l0 x5_1).f1.f1.f1) == ((rd_T82 l1 x5_1).f1.f1.f1)))) || (!(((rd_T82 l0 x5_1).f1.f2) == ((rd_T82 l1 x5_1).f1.f2)) || (!(((rd_T82 l0 x5_1).f1.f3) == ((rd_T82 l1 x5_1).f1.f3)))))))) = true
     ·
      rw [if_pos c7] at H
      have c7b0 : (!(((rd_T82 l0 x5_1).f0) == ((rd_T82 l1 x5_1).f0)) || ((!(((rd_T82 l0 x5_1).f1.f0) == ((rd_T82 l1 x5_1).f1.f0)) || ((!(((rd_T82 l0 x5_1).f1.f1.f0) == ((rd_T82 l1 x5_1).f1.f1.f0)) || (!(((rd_T82 l0 x5_1).f1.f1.f1) == ((rd_T82 l1 x5_1).f1.f1.f1)))) || (!(((rd_T82 l0 x5_1).f1.f2) == ((rd_T82 l1 x5_1).f1.f2)) || (!(((rd_T82 l0 x5_1).f1.f3) == ((rd_T82 l1 x5_1).f1.f3)))))))) = true := c7
      clear c7
      obtain rfl := Option.some.inj H
      have p349 : 0 ≤ (x5_1 : Int) := od
      have q349 : x5_1 < (l0.length : Int) := od
      obtain ⟨ad349, e349, hx349_0, hx349_1, hx349_2, hx349_3, hx349_4, hx349_5⟩ := at_T82 HR0.out x5_1 p349 q349
      cases e349
      replace p349 := eq_true p349
      replace q349 := eq_true q349
      have p350 : 0 ≤ (x5_1 : Int) := od
      have q350 : x5_1 < (l1.length : Int) := od
      obtain ⟨ad350, e350, hx350_0, hx350_1, hx350_2, hx350_3, hx350_4, hx350_5⟩ := at_T82 HR1.out x5_1 p350 q350
      cases e350
      replace p350 := eq_true p350
      replace q350 := eq_true q350
      go_wp2
      repeat (go_quiet (fail); try go_wp2)
      go_ret
      exact ⟨rs_, dr_⟩
     ·
      rw [if_neg c7] at H
      have c7b0 : (!(((rd_T82 l0 x5_1).f0) == ((rd_T82 l1 x5_1).f0)) || ((!(((rd_T82 l0 x5_1).f1.f0) == ((rd_T82 l1 x5_1).f1.f0)) || ((!(((rd_T82 l0 x5_1).f1.f1.f0) == ((rd_T82 l1 x5_1).f1.f1.f0)) || (!(((rd_T82 l0 x5_1).f1.f1.f1) == ((rd_T82 l1 x5_1).f1.f1.f1)))) || (!(((rd_T82 l0 x5_1).f1.f2) == ((rd_T82 l1 x5_1).f1.f2)) || (!(((rd_T82 l0 x5_1).f1.f3) == ((rd_T82 l1 x5_1).f1.f3)))))))) = false := by simpa using c7
      clear c7
      have H' := Aside0.mk H
      clear H
      have p349 : 0 ≤ (x5_1 : Int) := od
      have q349 : x5_1 < (l0.length : Int) := od
      obtain ⟨ad349, e349, hx349_0, hx349_1, hx349_2, hx349_3, hx349_4, hx349_5⟩ := at_T82 HR0.out x5_1 p349 q349
      cases e349
      replace p349 := eq_true p349
      replace q349 := eq_true q349
      have p350 : 0 ≤ (x5_1 : Int) := od
      have q350 : x5_1 < (l1.length : Int) := od
      obtain ⟨ad350, e350, hx350_0, hx350_1, hx350_2, hx350_3, hx350_4, hx350_5⟩ := at_T82 HR1.out x5_1 p350 q350
      cases e350
      replace p350 := eq_true p350
      replace q350 := eq_true q350
      go_wp2
      repeat (go_quiet (fail); try go_wp2)
      go_roundg k1
      case measure => have := HK1.out; omega
      case rel => exact ⟨(wrap64 (x5_1 + 1)), rs_, H', ⟨by have := HK1.out; omega⟩, dr_⟩
    ·
     rw [if_neg c4] at H
     have c4b0 : decide (x5_1 < (l0.length : Int)) = false := decide_eq_false c4
     clear c4
     obtain rfl := Option.some.inj H
     go_wp2
     repeat (go_quiet (fail); try go_wp2)
     go_ret
     exact ⟨rs_, dr_⟩
 ·
  rw [if_neg c3] at H
  have c3b0 : ((l0.length : Int) == (l1.length : Int)) = false := beq_eq_false_iff_ne.mpr c3
  have c3b1 : ((l0.length : Int) != (l1.length : Int)) = true := bne_iff_ne.mpr c3
  have c3b2 : (l0.length == l1.length) = false := by first | simpa using c3 | (simp at c3 ⊢; omega)
  obtain rfl := Option.some.inj H
  go_enter Try.func32, Try.ntmps32
  go_wp2
  repeat (go_quiet (fail); try go_wp2)
  go_ret
  exact ⟨rs_, dr_⟩
end Go.Proofs.Ytofaindjbhmopaa.X
