/- Printed by a program of this session's own: what functions of the program compute, and that the machine computes it. No condition of its own. -/
import Derived.Test.YtofaindjbhmopaaM3
import Derived.Test.YtofaindjbhmopaaM8
namespace Go.Proofs.Ytofaindjbhmopaa.X
open Go.RowKit Go.Proofs.YtofaindjbhmopaaW.PrintWords Go.Proofs.YtofaindjbhmopaaW.PrintLast Go.Proofs.YtofaindjbhmopaaW.PrintMore
attribute [local go_sem] max2_int min2_int max_two min_two max_three min_three max_four min_four
set_option linter.unusedVariables false
set_option linter.unusedSimpArgs false
set_option maxHeartbeats 8000000
set_option maxRecDepth 100000
attribute [local go_sem high] eqA82
def r10_Same.l0 : Nat → List (S82) → List (S82) → Int → Option (Bool)
 | 0, _, _, _ => none
 | k + 1, x0, x1, x5 => if x5 < (x0.length : Int) then (if 0 ≤ x5 then (if x5 < (x1.length : Int) then (if (!(((rd_T82 x0 x5).f0) == ((rd_T82 x1 x5).f0)) || ((!(((rd_T82 x0 x5).f1.f0) == ((rd_T82 x1 x5).f1.f0)) || ((!(((rd_T82 x0 x5).f1.f1.f0) == ((rd_T82 x1 x5).f1.f1.f0)) || (!(((rd_T82 x0 x5).f1.f1.f1) == ((rd_T82 x1 x5).f1.f1.f1)))) || (!(((rd_T82 x0 x5).f1.f2) == ((rd_T82 x1 x5).f1.f2)) || (!(((rd_T82 x0 x5).f1.f3) == ((rd_T82 x1 x5).f1.f3)))))))) = true then (some false) else (r10_Same.l0 k x0 x1 (wrap64 (x5 + 1)))) else (none)) else (none)) else (some true)
def r10_Same.f (k : Nat) (l0 : List (S82)) (l1 : List (S82)) : Option (Bool) := if (l0.length : Int) = (l1.length : Int) then (r10_Same.l0 k l0 l1 0) else (some false)
theorem r10_Same.mono_l : ∀ k, (∀ y0 y1 y2, LeC (r10_Same.l0 k y0 y1 y2) (r10_Same.l0 (k + 1) y0 y1 y2))
 | 0 => fun _ _ _ => ⟨fun r h => by simp [r10_Same.l0] at h⟩
 | k + 1 => by have ih0 := r10_Same.mono_l k; exact fun _ _ _ => by unfold r10_Same.l0; exact lm
theorem r10_Same.mono : ∀ a0 a1 k, LeO (r10_Same.f k a0 a1) (r10_Same.f (k + 1) a0 a1) := by
 intro a0 a1 k
 have ih0 := r10_Same.mono_l k
 unfold r10_Same.f
 exact lo
instance r10_Same.mI {a0 a1 k} : LeC (r10_Same.f k a0 a1) (r10_Same.f (k + 1) a0 a1) := ⟨r10_Same.mono _ _ _⟩
theorem r10_Same.calls (k : Nat) (A0 : Option Addr) (c0 : Nat) (l0 : List (S82)) (A1 : Option Addr) (c1 : Nat) (l1 : List (S82)) (r : Bool) (w : World) (hr0 : Kd.C k82 w A0 l0.length l0) (hc0 : l0.length ≤ c0) (hr1 : Kd.C k82 w A1 l1.length l1) (hc1 : l1.length ≤ c1) (h : r10_Same.f k l0 l1 = some r) :
 Calls Try.prog 32 #[.slice A0 l0.length c0, .slice A1 l1.length c1] w fun e w' => e = .returned (.bool r) ∧ Drawn0 w w' := by
 have hu82 := Try.underlying82
 have HR0 := Aside0.mk hr0
 have HC0 := Aside0.mk hc0
 clear hr0 hc0
 have HR1 := Aside0.mk hr1
 have HC1 := Aside0.mk hc1
 clear hr1 hc1
 have H : (if (l0.length : Int) = (l1.length : Int) then (r10_Same.l0 k l0 l1 0) else (some false)) = some r := h
 clear h
 by_cases c3 : (l0.length : Int) = (l1.length : Int)
 ·
  rw [if_pos c3] at H
  have c3b0 : ((l0.length : Int) == (l1.length : Int)) = true := beq_iff_eq.mpr c3
  have c3b1 : ((l0.length : Int) != (l1.length : Int)) = false := bne_eq_false_iff_eq.mpr c3
  have c3b2 : (l0.length == l1.length) = true := by first | simpa using c3 | (simp at c3 ⊢; omega)
  clear c3
  have H' := Aside0.mk H
  clear H
  go_enter Try.func32, Try.ntmps32
  go_wp2
  repeat (go_quiet (fail); try go_wp2)
  go_loopg [5] k (fun kq v5 w' => ∃ (x5_1 : Int), v5 = .int .i64 x5_1 ∧ Aside0 (r10_Same.l0 kq l0 l1 x5_1 = some r) ∧ Aside0 (kq ≤ k) ∧ Drawn0 w w')
  case atStart => exact ⟨(0), rs_, H', ⟨Nat.le_refl _⟩, dr_⟩
  case round =>
   clear H'
   try clear c1
   try clear p2
   try clear c3
   try clear c3b0
   try clear c3b1
   try clear c3b2
   obtain ⟨x5_1, rfl, HA, HK1, ⟨m1, rfl⟩⟩ := hrel
   cases gk with
   | zero => exact absurd HA.out (by simp [r10_Same.l0])
   | succ k1 =>
    have H := HA.out
    clear HA
    simp only [r10_Same.l0] at H
    by_cases c4 : x5_1 < (l0.length : Int)
    ·
     rw [if_pos c4] at H
     have c4b0 : decide (x5_1 < (l0.length : Int)) = true := decide_eq_true c4
     clear c4
     obtain ⟨c5b0, H⟩ := gdd H
     obtain ⟨c6b0, H⟩ := gdd H
     by_cases c7 : (!(((rd_T82 l0 x5_1).f0) == ((rd_T82 l1 x5_1).f0)) || ((!(((rd_T82 l0 x5_1).f1.f0) == ((rd_T82 l1 x5_1).f1.f0)) || ((!(((rd_T82 l0 x5_1).f1.f1.f0) == ((rd_T82 l1 x5_1).f1.f1.f0)) || (!(((rd_T82 l0 x5_1).f1.f1.f1) == ((rd_T82 l1 x5_1).f1.f1.f1)))) || (!(((rd_T82 l0 x5_1).f1.f2) == ((rd_T82 l1 x5_1).f1.f2)) || (!(((rd_T82 l0 x5_1).f1.f3) == ((rd_T82 l1 x5_1).f1.f3)))))))) = true
     ·
      rw [if_pos c7] at H
      have c7b0 : (!(((rd_T82 l0 x5_1).f0) == ((rd_T82 l1 x5_1).f0)) || ((!(((rd_T82 l0 x5_1).f1.f0) == ((rd_T82 l1 x5_1).f1.f0)) || ((!(((rd_T82 l0 x5_1).f1.f1.f0) == ((rd_T82 l1 x5_1).f1.f1.f0)) || (!(((rd_T82 l0 x5_1).f1.f1.f1) == ((rd_T82 l1 x5_1).f1.f1.f1)))) || (!(((rd_T82 l0 x5_1).f1.f2) == ((rd_T82 l1 x5_1).f1.f2)) || (!(((rd_T82 l0 x5_1).f1.f3) == ((rd_T82 l1 x5_1).f1.f3)))))))) = true := c7
      clear c7
      obtain rfl := Option.some.inj H
      have p470 : 0 ≤ (x5_1 : Int) := od
      have q470 : x5_1 < (l0.length : Int) := od
      obtain ⟨ad470, e470, hx470_0, hx470_1, hx470_2, hx470_3, hx470_4, hx470_5⟩ := at_T82 HR0.out x5_1 p470 q470
      cases e470
      replace p470 := eq_true p470
      replace q470 := eq_true q470
      have p471 : 0 ≤ (x5_1 : Int) := od
      have q471 : x5_1 < (l1.length : Int) := od
      obtain ⟨ad471, e471, hx471_0, hx471_1, hx471_2, hx471_3, hx471_4, hx471_5⟩ := at_T82 HR1.out x5_1 p471 q471
      cases e471
      replace p471 := eq_true p471
      replace q471 := eq_true q471
      go_wp2
      repeat (go_quiet (fail); try go_wp2)
      go_ret
      exact ⟨rs_, dr_⟩
     ·
      rw [if_neg c7] at H
      have c7b0 : (!(((rd_T82 l0 x5_1).f0) == ((rd_T82 l1 x5_1).f0)) || ((!(((rd_T82 l0 x5_1).f1.f0) == ((rd_T82 l1 x5_1).f1.f0)) || ((!(((rd_T82 l0 x5_1).f1.f1.f0) == ((rd_T82 l1 x5_1).f1.f1.f0)) || (!(((rd_T82 l0 x5_1).f1.f1.f1) == ((rd_T82 l1 x5_1).f1.f1.f1)))) || (!(((rd_T82 l0 x5_1).f1.f2) == ((rd_T82 l1 x5_1).f1.f2)) || (!(((rd_T82 l0 x5_1).f1.f3) == ((rd_T82 l1 x5_1).f1.f3)))))))) = false := by simpa using c7
      clear c7
      have H' := Aside0.mk H
      clear H
      have p470 : 0 ≤ (x5_1 : Int) := od
      have q470 : x5_1 < (l0.length : Int) := od
      obtain ⟨ad470, e470, hx470_0, hx470_1, hx470_2, hx470_3, hx470_4, hx470_5⟩ := at_T82 HR0.out x5_1 p470 q470
      cases e470
      replace p470 := eq_true p470
      replace q470 := eq_true q470
      have p471 : 0 ≤ (x5_1 : Int) := od
      have q471 : x5_1 < (l1.length : Int) := od
      obtain ⟨ad471, e471, hx471_0, hx471_1, hx471_2, hx471_3, hx471_4, hx471_5⟩ := at_T82 HR1.out x5_1 p471 q471
      cases e471
      replace p471 := eq_true p471
      replace q471 := eq_true q471
      go_wp2
      repeat (go_quiet (fail); try go_wp2)
      go_roundg k1
      case measure => have := HK1.out; omega
      case rel => exact ⟨(wrap64 (x5_1 + 1)), rs_, H', ⟨by have := HK1.out; omega⟩, dr_⟩
    ·
     rw [if_neg c4] at H
     have c4b0 : decide (x5_1 < (l0.length : Int)) = false := decide_eq_false c4
     clear c4
     obtain rfl := Option.some.inj H
     go_wp2
     repeat (go_quiet (fail); try go_wp2)
     go_ret
     exact ⟨rs_, dr_⟩
 ·
  rw [if_neg c3] at H
  have c3b0 : ((l0.length : Int) == (l1.length : Int)) = false := beq_eq_false_iff_ne.mpr c3
  have c3b1 : ((l0.length : Int) != (l1.length : Int)) = true := bne_iff_ne.mpr c3
  have c3b2 : (l0.length == l1.length) = false := by first | simpa using c3 | (simp at c3 ⊢; omega)
  obtain rfl := Option.some.inj H
  go_enter Try.func32, Try.ntmps32
  go_wp2
  repeat (go_quiet (fail); try go_wp2)
  go_ret
  exact ⟨rs_, dr_⟩
def r11_Same.l0 : Nat → Int → List (S59) → List (S59) → Option (Bool)
 | 0, _, _, _ => none
 | k + 1, x5, x473000, x474000 => if x5 < (x473000.length : Int) then (if 0 ≤ x5 then (if x5 < (x474000.length : Int) then (if ((rd_T59 x473000 x5).f0) = ((rd_T59 x474000 x5).f0) then (if ((rd_T59 x473000 x5).f1).toList = ((rd_T59 x474000 x5).f1).toList then ((r10_Same.f k ((rd_T59 x473000 x5).f2) ((rd_T59 x474000 x5).f2)).bind fun t478 => (if t478 = true then (r11_Same.l0 k (wrap64 (x5 + 1)) x473000 x474000) else (some false))) else (some false)) else (some false)) else (none)) else (none)) else (some true)
def r11_Same.f (k : Nat) (l0_0 : List (S59)) (l1_0 : List (S59)) : Option (Bool) := if (l0_0.length : Int) = (l1_0.length : Int) then (r11_Same.l0 k 0 l0_0 l1_0) else (some false)
theorem r11_Same.mono_l : ∀ k, (∀ y0 y1 y2, LeC (r11_Same.l0 k y0 y1 y2) (r11_Same.l0 (k + 1) y0 y1 y2))
 | 0 => fun _ _ _ => ⟨fun r h => by simp [r11_Same.l0] at h⟩
 | k + 1 => by have ih0 := r11_Same.mono_l k; exact fun _ _ _ => by unfold r11_Same.l0; exact lm
theorem r11_Same.mono : ∀ a0 a1 k, LeO (r11_Same.f k a0 a1) (r11_Same.f (k + 1) a0 a1) := by
 intro a0 a1 k
 have ih0 := r11_Same.mono_l k
 unfold r11_Same.f
 exact lo
instance r11_Same.mI {a0 a1 k} : LeC (r11_Same.f k a0 a1) (r11_Same.f (k + 1) a0 a1) := ⟨r11_Same.mono _ _ _⟩
def r11_Same.T6 : Bool × List (List Nat × List Nat) := (true, [([], []), ([0], [0]), ([], []), ([1, 2], [1, 2]), ([3], [3]), ([], []), ([5], [5]), ([], []), ([6, 7], [6, 7]), ([8], [8]), ([], []), ([], []), ([10, 4, 0, 1, 2, 3, 4, 10, 11], [4, 10]), ([11, 9, 12, 0, 1, 2, 3, 4, 5, 6, 7, 8, 9, 10, 11, 12], [9, 11])])
def r11_Same.B6 : List Nat := [0, 1, 0, 7, 15, 0, 32, 0, 224, 480, 0, 0, 3103, 8191]
theorem r11_Same.tab6 : rtab .any (opsOf Try.f13 6) = r11_Same.T6 := by kernel_rfl
theorem r11_Same.bits6 : waitsOk r11_Same.T6.2 r11_Same.B6 = true := by kernel_rfl
theorem r11_Same.calls (k : Nat) (A0_0 : Option Addr) (c0_0 : Nat) (l0_0 : List (S59)) (A1_0 : Option Addr) (c1_0 : Nat) (l1_0 : List (S59)) (r : Bool) (w : World) (hr0_0 : Kd.C k59 w A0_0 l0_0.length l0_0) (hc0_0 : l0_0.length ≤ c0_0) (hr1_0 : Kd.C k59 w A1_0 l1_0.length l1_0) (hc1_0 : l1_0.length ≤ c1_0) (h : r11_Same.f k l0_0 l1_0 = some r) :
 Calls Try.prog 13 #[.agg #[.slice A0_0 l0_0.length c0_0], .agg #[.slice A1_0 l1_0.length c1_0]] w fun e w' => e = .returned (.bool r) ∧ Below w.heap.size w w' := by
 have hu24 := Try.underlying24
 have hu59 := Try.underlying59
 have HR0_0 := Aside0.mk hr0_0
 have HC0_0 := Aside0.mk hc0_0
 clear hr0_0 hc0_0
 have HR1_0 := Aside0.mk hr1_0
 have HC1_0 := Aside0.mk hc1_0
 clear hr1_0 hc1_0
 have HB := Aside0.mk (Below.refl w.heap.size w)
 have H : (if (l0_0.length : Int) = (l1_0.length : Int) then (r11_Same.l0 k 0 l0_0 l1_0) else (some false)) = some r := h
 clear h
 by_cases c3 : (l0_0.length : Int) = (l1_0.length : Int)
 ·
  rw [if_pos c3] at H
  have c3b0 : ((l0_0.length : Int) == (l1_0.length : Int)) = true := beq_iff_eq.mpr c3
  have c3b1 : ((l0_0.length : Int) != (l1_0.length : Int)) = false := bne_eq_false_iff_eq.mpr c3
  have c3b2 : (l0_0.length == l1_0.length) = true := by first | simpa using c3 | (simp at c3 ⊢; omega)
  clear c3
  have H' := Aside0.mk H
  clear H
  go_enter Try.func13, Try.ntmps13
  go_wp2_with (first | ((with_reducible refine gate_dst (N := 2) rfl ?_); refine bx (N := 2) #[.slice A0_0 l0_0.length c0_0] 24 ?_; intro gb472 hg w4 hbox hb; have BK472 := Aside0.mk (hbox); have GW472 := gw hg (uW HB.out); have GE472 := GW472; replace HB := cW HB hb; clear hb hbox hg) | ((with_reducible refine gate_dst (N := 3) rfl ?_); refine bx (N := 3) #[.slice A1_0 l1_0.length c1_0] 24 ?_; intro gb473 hg w5 hbox hb; have BK473 := Aside0.mk (hbox); have GW473 := gw hg bl; have GE473 := GW473; replace HB := Aside0.mk (below_step bl hb); have NB472_473 := Aside0.mk ((by rw [hg]; exact Nat.ne_of_lt (blk_lt (g := gb472) (o := .cells #[.slice A0_0 l0_0.length c0_0] 24 (0, 0)) (uB BK472.out)) : gb472 ≠ gb473)); have NB473_472 := Aside0.mk ((by rw [hg]; exact Nat.ne_of_gt (blk_lt (g := gb472) (o := .cells #[.slice A0_0 l0_0.length c0_0] 24 (0, 0)) (uB BK472.out)) : gb473 ≠ gb472)); replace BK472 := cB BK472 hb; clear hb hbox hg; have hnb6 := NB472_473.out; have hnc6 := NB473_472.out; obtain ⟨hcz7_0, hfz7_0⟩ := z1 BK472; obtain ⟨hcz8_0, hfz8_0⟩ := z1 BK473))
  go_loopg [5] k (fun kq v5 w' => ∃ (x5_1 : Int), v5 = .int .i64 x5_1 ∧ Aside0 (r11_Same.l0 kq x5_1 l0_0 l1_0 = some r) ∧ Aside0 (kq ≤ k) ∧ Aside0 (w'.heap[gb472]? = some (.cells #[(.slice A0_0 l0_0.length c0_0)] 24 (0, 0))) ∧ Aside0 (w'.heap[gb473]? = some (.cells #[(.slice A1_0 l1_0.length c1_0)] 24 (0, 0))) ∧ Aside0 (Below w.heap.size w w'))
  case atStart => exact ⟨(0), rs_, H', ⟨Nat.le_refl _⟩, ⟨uB BK472.out⟩, ⟨uB BK473.out⟩, ⟨bl⟩⟩
  case round =>
   clear H'
   try clear c1
   try clear p2
   try clear c3
   try clear c3b0
   try clear c3b1
   try clear c3b2
   try clear c6
   try clear hcz7_0
   try clear hcz8_0
   try clear hfz7_0
   try clear hfz8_0
   obtain ⟨x5_1, rfl, HA, HK1, BK472, BK473, HB⟩ := hrel
   cases gk with
   | zero => exact absurd HA.out (by simp [r11_Same.l0])
   | succ k1 =>
    have H := HA.out
    clear HA
    simp only [r11_Same.l0] at H
    by_cases c9 : x5_1 < (l0_0.length : Int)
    ·
     rw [if_pos c9] at H
     have c9b0 : decide (x5_1 < (l0_0.length : Int)) = true := decide_eq_true c9
     clear c9
     by_cases c10 : 0 ≤ x5_1
     ·
      rw [if_pos c10] at H
      have c10b0 : decide (0 ≤ x5_1) = true := decide_eq_true c10
      clear c10
      by_cases c11 : x5_1 < (l1_0.length : Int)
      ·
       rw [if_pos c11] at H
       have c11b0 : decide (x5_1 < (l1_0.length : Int)) = true := decide_eq_true c11
       clear c11
       by_cases c12 : ((rd_T59 l0_0 x5_1).f0) = ((rd_T59 l1_0 x5_1).f0)
       ·
        rw [if_pos c12] at H
        have c12b0 : (((rd_T59 l0_0 x5_1).f0) == ((rd_T59 l1_0 x5_1).f0)) = true := beq_iff_eq.mpr c12
        have c12b1 : (((rd_T59 l0_0 x5_1).f0) != ((rd_T59 l1_0 x5_1).f0)) = false := bne_eq_false_iff_eq.mpr c12
        clear c12
        by_cases c13 : ((rd_T59 l0_0 x5_1).f1).toList = ((rd_T59 l1_0 x5_1).f1).toList
        ·
         rw [if_pos c13] at H
         have c13b0 : (((rd_T59 l0_0 x5_1).f1).toList == ((rd_T59 l1_0 x5_1).f1).toList) = true := beq_iff_eq.mpr c13
         have c13b1 : (((rd_T59 l0_0 x5_1).f1).toList != ((rd_T59 l1_0 x5_1).f1).toList) = false := bne_eq_false_iff_eq.mpr c13
         clear c13
         obtain ⟨t478, A14, H⟩ := bs H
         try dsimp only at H
         by_cases c15 : t478 = true
         ·
          subst c15
          rw [if_pos rfl] at H
          have H' := Aside0.mk H
          clear H
          have hnb16 := NB472_473.out
          have hnc16 := NB473_472.out
          obtain ⟨hcz17_0, hfz17_0⟩ := z1 BK472
          try go_wp2
          replace BK472 := Aside0.mk (blk_drew BK472.out)
          replace BK473 := Aside0.mk (blk_drew BK473.out)
          replace HB := Aside0.mk (below_drew1 HB.out)
          have p474 : 0 ≤ (x5_1 : Int) := od
          have q474 : x5_1 < (l0_0.length : Int) := od
          obtain ⟨ad474, A474_2, c474_2, e474, hx474_0, hx474_1, hx474_2, hl474_2, hi474_2⟩ := at_T59 HR0_0.out x5_1 p474 q474
          have hw474_2 := hx474_2
          have hw474_1 := hx474_1
          have hw474_0 := hx474_0
          cases e474
          replace hx474_0 := kc HB hx474_0
          replace hx474_1 := kc HB hx474_1
          replace hx474_2 := kc HB hx474_2
          have HR474_2 := Aside0.mk hi474_2
          have HC474_2 := Aside0.mk hl474_2
          clear hi474_2 hl474_2
          replace p474 := eq_true p474
          replace q474 := eq_true q474
          have p475 : 0 ≤ (x5_1 : Int) := od
          have q475 : x5_1 < (l1_0.length : Int) := od
          obtain ⟨ad475, A475_2, c475_2, e475, hx475_0, hx475_1, hx475_2, hl475_2, hi475_2⟩ := at_T59 HR1_0.out x5_1 p475 q475
          have hw475_2 := hx475_2
          have hw475_1 := hx475_1
          have hw475_0 := hx475_0
          cases e475
          replace hx475_0 := kc HB hx475_0
          replace hx475_1 := kc HB hx475_1
          replace hx475_2 := kc HB hx475_2
          have HR475_2 := Aside0.mk hi475_2
          have HC475_2 := Aside0.mk hl475_2
          clear hi475_2 hl475_2
          replace p475 := eq_true p475
          replace q475 := eq_true q475
          refine start_ (n := 14) (S := fun w' => w'.cell? ⟨gb472, 0, none⟩ = some (.slice (some ad474) l0_0.length c0_0) ∧ w'.cell? ⟨gb473, 0, none⟩ = some (.slice (some ad475) l1_0.length c1_0) ∧ w'.cell? (ad474.add ((x5_1).toNat * 3)) = some (.int .i64 ((rd_T59 l0_0 x5_1).f0)) ∧ w'.cell? ⟨(ad474.add ((x5_1).toNat * 3)).block, (ad474.add ((x5_1).toNat * 3)).off + 1, none⟩ = some (.string ((rd_T59 l0_0 x5_1).f1)) ∧ w'.cell? ⟨(ad474.add ((x5_1).toNat * 3)).block, (ad474.add ((x5_1).toNat * 3)).off + 2, none⟩ = some (.slice A474_2 ((rd_T59 l0_0 x5_1).f2).length c474_2) ∧ w'.cell? (ad475.add ((x5_1).toNat * 3)) = some (.int .i64 ((rd_T59 l1_0 x5_1).f0)) ∧ w'.cell? ⟨(ad475.add ((x5_1).toNat * 3)).block, (ad475.add ((x5_1).toNat * 3)).off + 1, none⟩ = some (.string ((rd_T59 l1_0 x5_1).f1)) ∧ w'.cell? ⟨(ad475.add ((x5_1).toNat * 3)).block, (ad475.add ((x5_1).toNat * 3)).off + 2, none⟩ = some (.slice A475_2 ((rd_T59 l1_0 x5_1).f2).length c475_2)) (ds := []) _ (by kernel_rfl) rfl rfl ⟨(blk_cell BK472.out 0).trans rfl, (blk_cell BK473.out 0).trans rfl, (kc HB hw474_0), (kc HB hw474_1), (kc HB hw474_2), (kc HB hw475_0), (kc HB hw475_1), (kc HB hw475_2)⟩ (fun hHeld => ?_); refine with_tabW r11_Same.tab6 r11_Same.bits6 (fun HT_ HW_ => ?_)
          generalize wr.drew = w18 at BK472 BK473 HB HR474_2 HR475_2 hx474_0 hx474_1 hx474_2 hx475_0 hx475_1 hx475_2 hHeld ⊢
          refine p1 0 (some 22) ?_
          refine p1 2 (some 24) ?_
          refine p1 5 (some 27) ?_
          refine p1 7 (some 29) ?_
          refine t1 1 (some 23) rfl rfl hHeld (Or.inl ⟨by rfl, by rintro w' ⟨s0, s1, s2, s3, s4, s5, s6, s7⟩; go_simp; with_reducible rfl⟩) ?_
          refine p1 3 (some 25) ?_
          refine t1 4 (some 26) rfl rfl hHeld (Or.inl ⟨by rfl, by rintro w' ⟨s0, s1, s2, s3, s4, s5, s6, s7⟩; go_simp; with_reducible rfl⟩) ?_
          refine t1 6 (some 28) rfl rfl hHeld (Or.inl ⟨by rfl, by rintro w' ⟨s0, s1, s2, s3, s4, s5, s6, s7⟩; go_simp; with_reducible rfl⟩) ?_
          refine p1 8 (some 30) ?_
          refine t1 9 (some 31) rfl rfl hHeld (Or.inl ⟨by rfl, by rintro w' ⟨s0, s1, s2, s3, s4, s5, s6, s7⟩; go_simp; with_reducible rfl⟩) ?_
          refine join_ (σ := Nat × Nat) 2 #[true, true, true, true, true, true, true, true, true, true, true, true, false, false] (fun s_ => [(6, .pointer (some ⟨s_.1, 0, none⟩)), (7, .pointer (some ⟨s_.2, 0, none⟩))]) (fun s_ w' => (w'.cell? ⟨gb472, 0, none⟩ = some (.slice (some ad474) l0_0.length c0_0) ∧ w'.cell? ⟨gb473, 0, none⟩ = some (.slice (some ad475) l1_0.length c1_0) ∧ w'.cell? (ad474.add ((x5_1).toNat * 3)) = some (.int .i64 ((rd_T59 l0_0 x5_1).f0)) ∧ w'.cell? ⟨(ad474.add ((x5_1).toNat * 3)).block, (ad474.add ((x5_1).toNat * 3)).off + 1, none⟩ = some (.string ((rd_T59 l0_0 x5_1).f1)) ∧ w'.cell? ⟨(ad474.add ((x5_1).toNat * 3)).block, (ad474.add ((x5_1).toNat * 3)).off + 2, none⟩ = some (.slice A474_2 ((rd_T59 l0_0 x5_1).f2).length c474_2) ∧ w'.cell? (ad475.add ((x5_1).toNat * 3)) = some (.int .i64 ((rd_T59 l1_0 x5_1).f0)) ∧ w'.cell? ⟨(ad475.add ((x5_1).toNat * 3)).block, (ad475.add ((x5_1).toNat * 3)).off + 1, none⟩ = some (.string ((rd_T59 l1_0 x5_1).f1)) ∧ w'.cell? ⟨(ad475.add ((x5_1).toNat * 3)).block, (ad475.add ((x5_1).toNat * 3)).off + 2, none⟩ = some (.slice A475_2 ((rd_T59 l1_0 x5_1).f2).length c475_2)) ∧ (w'.heap[gb472]? = some (.cells #[.slice (some ad474) l0_0.length c0_0] 24 (0, 0))) ∧ (w'.heap[gb473]? = some (.cells #[.slice (some ad475) l1_0.length c1_0] 24 (0, 0))) ∧ (w'.heap[s_.1]? = some (.cells #[.int .i64 0, .string (⟨#[]⟩ : ByteArray), .slice none 0 0] 59 (0, 0))) ∧ (w'.heap[s_.2]? = some (.cells #[.int .i64 0, .string (⟨#[]⟩ : ByteArray), .slice none 0 0] 59 (0, 0))) ∧ (w.heap.size ≤ s_.1) ∧ (w.heap.size ≤ s_.1) ∧ (gb472 ≠ s_.1) ∧ (s_.1 ≠ gb472) ∧ (gb473 ≠ s_.1) ∧ (s_.1 ≠ gb473) ∧ (s_.2 ≠ s_.1) ∧ (s_.1 ≠ s_.2) ∧ (w.heap.size ≤ s_.2) ∧ (w.heap.size ≤ s_.2) ∧ (gb472 ≠ s_.2) ∧ (s_.2 ≠ gb472) ∧ (gb473 ≠ s_.2) ∧ (s_.2 ≠ gb473) ∧ (Below w.heap.size w w')) ?_ ?_
          rotate_left
          ·
           intro hCont
           refine two_ (i := 10) (j := 11) (Ni := some 6) (Nj := some 7) #[true, true, true, true, true, true, true, true, true, true, true, false, false, false] #[true, true, true, true, true, true, true, true, true, true, false, true, false, false] rfl rfl rfl rfl (two_of HT_.out (by kernel_rfl)) (by decide) (by decide) (fun K hK => ?_) (fun K hK => ?_)
           ·
            skip
            refine box_step ?hg (N := 6) ?hd (cs := #[.int .i64 0, .string (⟨#[]⟩ : ByteArray), .slice none 0 0]) (t := 59) ?hr ?_; (case hd => rfl); (case hg => rfl); (case hr => first | (go_simp; done) | (go_simp; rfl))
            intro gb476 hg w19 hbox hb
            have BK476 := Aside0.mk (hbox)
            have GW476 := gw hg bl
            have GE476 := gw hg bl
            replace HB := Aside0.mk (below_step bl hb)
            have NB472_476 := Aside0.mk ((by rw [hg]; exact Nat.ne_of_lt (blk_lt (g := gb472) (o := .cells #[.slice (some ad474) l0_0.length c0_0] 24 (0, 0)) (uB BK472.out)) : gb472 ≠ gb476))
            have NB476_472 := Aside0.mk ((by rw [hg]; exact Nat.ne_of_gt (blk_lt (g := gb472) (o := .cells #[.slice (some ad474) l0_0.length c0_0] 24 (0, 0)) (uB BK472.out)) : gb476 ≠ gb472))
            replace BK472 := cB BK472 hb
            have NB473_476 := Aside0.mk ((by rw [hg]; exact Nat.ne_of_lt (blk_lt (g := gb473) (o := .cells #[.slice (some ad475) l1_0.length c1_0] 24 (0, 0)) (uB BK473.out)) : gb473 ≠ gb476))
            have NB476_473 := Aside0.mk ((by rw [hg]; exact Nat.ne_of_gt (blk_lt (g := gb473) (o := .cells #[.slice (some ad475) l1_0.length c1_0] 24 (0, 0)) (uB BK473.out)) : gb476 ≠ gb473))
            replace BK473 := cB BK473 hb
            clear hb hbox hg
            refine hK.out _ _ ⟨(blk_cell BK472.out 0).trans rfl, (blk_cell BK473.out 0).trans rfl, (kc HB hw474_0), (kc HB hw474_1), (kc HB hw474_2), (kc HB hw475_0), (kc HB hw475_1), (kc HB hw475_2)⟩ (fun hHeld => ?_)
            clear hK K
            refine norm_ (a' := ?_) ?_ ?_
            rotate_left
            ·
             show Act.put _ (some 6) _ = _
             simp only [Act.put, List.setIfInBounds_toArray, List.set_cons_zero, List.set_cons_succ, i64_w, i32_w]
             rfl
            refine o1 11 (some 7) rfl rfl (fun K hK => ?_)
            refine box_step ?hg (N := 7) ?hd (cs := #[.int .i64 0, .string (⟨#[]⟩ : ByteArray), .slice none 0 0]) (t := 59) ?hr ?_; (case hd => rfl); (case hg => rfl); (case hr => first | (go_simp; done) | (go_simp; rfl))
            intro gb477 hg w20 hbox hb
            have BK477 := Aside0.mk (hbox)
            have GW477 := gw hg bl
            have GE477 := gw hg bl
            replace HB := Aside0.mk (below_step bl hb)
            have NB472_477 := Aside0.mk ((by rw [hg]; exact Nat.ne_of_lt (blk_lt (g := gb472) (o := .cells #[.slice (some ad474) l0_0.length c0_0] 24 (0, 0)) (uB BK472.out)) : gb472 ≠ gb477))
            have NB477_472 := Aside0.mk ((by rw [hg]; exact Nat.ne_of_gt (blk_lt (g := gb472) (o := .cells #[.slice (some ad474) l0_0.length c0_0] 24 (0, 0)) (uB BK472.out)) : gb477 ≠ gb472))
            replace BK472 := cB BK472 hb
            have NB473_477 := Aside0.mk ((by rw [hg]; exact Nat.ne_of_lt (blk_lt (g := gb473) (o := .cells #[.slice (some ad475) l1_0.length c1_0] 24 (0, 0)) (uB BK473.out)) : gb473 ≠ gb477))
            have NB477_473 := Aside0.mk ((by rw [hg]; exact Nat.ne_of_gt (blk_lt (g := gb473) (o := .cells #[.slice (some ad475) l1_0.length c1_0] 24 (0, 0)) (uB BK473.out)) : gb477 ≠ gb473))
            replace BK473 := cB BK473 hb
            have NB476_477 := Aside0.mk ((by rw [hg]; exact Nat.ne_of_lt (blk_lt (g := gb476) (o := .cells #[.int .i64 0, .string (⟨#[]⟩ : ByteArray), .slice none 0 0] 59 (0, 0)) (uB BK476.out)) : gb476 ≠ gb477))
            have NB477_476 := Aside0.mk ((by rw [hg]; exact Nat.ne_of_gt (blk_lt (g := gb476) (o := .cells #[.int .i64 0, .string (⟨#[]⟩ : ByteArray), .slice none 0 0] 59 (0, 0)) (uB BK476.out)) : gb477 ≠ gb476))
            replace BK476 := cB BK476 hb
            clear hb hbox hg
            refine hK.out _ _ ⟨(blk_cell BK472.out 0).trans rfl, (blk_cell BK473.out 0).trans rfl, (kc HB hw474_0), (kc HB hw474_1), (kc HB hw474_2), (kc HB hw475_0), (kc HB hw475_1), (kc HB hw475_2)⟩ (fun hHeld => ?_)
            clear hK K
            refine norm_ (a' := ?_) ?_ ?_
            rotate_left
            ·
             show Act.put _ (some 7) _ = _
             simp only [Act.put, List.setIfInBounds_toArray, List.set_cons_zero, List.set_cons_succ, i64_w, i32_w]
             rfl
            exact norm_ (by simp only [putAll, Act.put, List.setIfInBounds_toArray, List.set_cons_zero, List.set_cons_succ]) (hCont (gb476, gb477) _ ⟨hHeld, (uB BK472.out), (uB BK473.out), (uB BK476.out), (uB BK477.out), GW476.out, GE476.out, NB472_476.out, NB476_472.out, NB473_476.out, NB476_473.out, NB477_476.out, NB476_477.out, GW477.out, GE477.out, NB472_477.out, NB477_472.out, NB473_477.out, NB477_473.out, bl⟩)
           ·
            skip
            refine box_step ?hg (N := 7) ?hd (cs := #[.int .i64 0, .string (⟨#[]⟩ : ByteArray), .slice none 0 0]) (t := 59) ?hr ?_; (case hd => rfl); (case hg => rfl); (case hr => first | (go_simp; done) | (go_simp; rfl))
            intro gb477 hg w19 hbox hb
            have BK477 := Aside0.mk (hbox)
            have GW477 := gw hg bl
            have GE477 := gw hg bl
            replace HB := Aside0.mk (below_step bl hb)
            have NB472_477 := Aside0.mk ((by rw [hg]; exact Nat.ne_of_lt (blk_lt (g := gb472) (o := .cells #[.slice (some ad474) l0_0.length c0_0] 24 (0, 0)) (uB BK472.out)) : gb472 ≠ gb477))
            have NB477_472 := Aside0.mk ((by rw [hg]; exact Nat.ne_of_gt (blk_lt (g := gb472) (o := .cells #[.slice (some ad474) l0_0.length c0_0] 24 (0, 0)) (uB BK472.out)) : gb477 ≠ gb472))
            replace BK472 := cB BK472 hb
            have NB473_477 := Aside0.mk ((by rw [hg]; exact Nat.ne_of_lt (blk_lt (g := gb473) (o := .cells #[.slice (some ad475) l1_0.length c1_0] 24 (0, 0)) (uB BK473.out)) : gb473 ≠ gb477))
            have NB477_473 := Aside0.mk ((by rw [hg]; exact Nat.ne_of_gt (blk_lt (g := gb473) (o := .cells #[.slice (some ad475) l1_0.length c1_0] 24 (0, 0)) (uB BK473.out)) : gb477 ≠ gb473))
            replace BK473 := cB BK473 hb
            clear hb hbox hg
            refine hK.out _ _ ⟨(blk_cell BK472.out 0).trans rfl, (blk_cell BK473.out 0).trans rfl, (kc HB hw474_0), (kc HB hw474_1), (kc HB hw474_2), (kc HB hw475_0), (kc HB hw475_1), (kc HB hw475_2)⟩ (fun hHeld => ?_)
            clear hK K
            refine norm_ (a' := ?_) ?_ ?_
            rotate_left
            ·
             show Act.put _ (some 7) _ = _
             simp only [Act.put, List.setIfInBounds_toArray, List.set_cons_zero, List.set_cons_succ, i64_w, i32_w]
             rfl
            refine o1 10 (some 6) rfl rfl (fun K hK => ?_)
            refine box_step ?hg (N := 6) ?hd (cs := #[.int .i64 0, .string (⟨#[]⟩ : ByteArray), .slice none 0 0]) (t := 59) ?hr ?_; (case hd => rfl); (case hg => rfl); (case hr => first | (go_simp; done) | (go_simp; rfl))
            intro gb476 hg w20 hbox hb
            have BK476 := Aside0.mk (hbox)
            have GW476 := gw hg bl
            have GE476 := gw hg bl
            replace HB := Aside0.mk (below_step bl hb)
            have NB472_476 := Aside0.mk ((by rw [hg]; exact Nat.ne_of_lt (blk_lt (g := gb472) (o := .cells #[.slice (some ad474) l0_0.length c0_0] 24 (0, 0)) (uB BK472.out)) : gb472 ≠ gb476))
            have NB476_472 := Aside0.mk ((by rw [hg]; exact Nat.ne_of_gt (blk_lt (g := gb472) (o := .cells #[.slice (some ad474) l0_0.length c0_0] 24 (0, 0)) (uB BK472.out)) : gb476 ≠ gb472))
            replace BK472 := cB BK472 hb
            have NB473_476 := Aside0.mk ((by rw [hg]; exact Nat.ne_of_lt (blk_lt (g := gb473) (o := .cells #[.slice (some ad475) l1_0.length c1_0] 24 (0, 0)) (uB BK473.out)) : gb473 ≠ gb476))
            have NB476_473 := Aside0.mk ((by rw [hg]; exact Nat.ne_of_gt (blk_lt (g := gb473) (o := .cells #[.slice (some ad475) l1_0.length c1_0] 24 (0, 0)) (uB BK473.out)) : gb476 ≠ gb473))
            replace BK473 := cB BK473 hb
            have NB477_476 := Aside0.mk ((by rw [hg]; exact Nat.ne_of_lt (blk_lt (g := gb477) (o := .cells #[.int .i64 0, .string (⟨#[]⟩ : ByteArray), .slice none 0 0] 59 (0, 0)) (uB BK477.out)) : gb477 ≠ gb476))
            have NB476_477 := Aside0.mk ((by rw [hg]; exact Nat.ne_of_gt (blk_lt (g := gb477) (o := .cells #[.int .i64 0, .string (⟨#[]⟩ : ByteArray), .slice none 0 0] 59 (0, 0)) (uB BK477.out)) : gb476 ≠ gb477))
            replace BK477 := cB BK477 hb
            clear hb hbox hg
            refine hK.out _ _ ⟨(blk_cell BK472.out 0).trans rfl, (blk_cell BK473.out 0).trans rfl, (kc HB hw474_0), (kc HB hw474_1), (kc HB hw474_2), (kc HB hw475_0), (kc HB hw475_1), (kc HB hw475_2)⟩ (fun hHeld => ?_)
            clear hK K
            refine norm_ (a' := ?_) ?_ ?_
            rotate_left
            ·
             show Act.put _ (some 6) _ = _
             simp only [Act.put, List.setIfInBounds_toArray, List.set_cons_zero, List.set_cons_succ, i64_w, i32_w]
             rfl
            exact norm_ (by simp only [putAll, Act.put, List.setIfInBounds_toArray, List.set_cons_zero, List.set_cons_succ]) (hCont (gb476, gb477) _ ⟨hHeld, (uB BK472.out), (uB BK473.out), (uB BK476.out), (uB BK477.out), GW476.out, GE476.out, NB472_476.out, NB476_472.out, NB473_476.out, NB476_473.out, NB477_476.out, NB476_477.out, GW477.out, GE477.out, NB472_477.out, NB477_472.out, NB473_477.out, NB477_473.out, bl⟩)
          rintro ⟨gb476, gb477⟩ w21 ⟨hS_, h0_, h1_, h2_, h3_, h4_, h5_, h6_, h7_, h8_, h9_, h10_, h11_, h12_, h13_, h14_, h15_, h16_, h17_, h18_⟩
          have n0_ : Aside0 (w21.heap[gb472]? = some (.cells #[.slice (some ad474) l0_0.length c0_0] 24 (0, 0))) := ⟨h0_⟩
          have n1_ : Aside0 (w21.heap[gb473]? = some (.cells #[.slice (some ad475) l1_0.length c1_0] 24 (0, 0))) := ⟨h1_⟩
          have n2_ : Aside0 (w21.heap[gb476]? = some (.cells #[.int .i64 0, .string (⟨#[]⟩ : ByteArray), .slice none 0 0] 59 (0, 0))) := ⟨h2_⟩
          have n3_ : Aside0 (w21.heap[gb477]? = some (.cells #[.int .i64 0, .string (⟨#[]⟩ : ByteArray), .slice none 0 0] 59 (0, 0))) := ⟨h3_⟩
          have n4_ : Aside0 (w.heap.size ≤ gb476) := ⟨h4_⟩
          have n5_ : Aside0 (w.heap.size ≤ gb476) := ⟨h5_⟩
          have n6_ : Aside0 (gb472 ≠ gb476) := ⟨h6_⟩
          have n7_ : Aside0 (gb476 ≠ gb472) := ⟨h7_⟩
          have n8_ : Aside0 (gb473 ≠ gb476) := ⟨h8_⟩
          have n9_ : Aside0 (gb476 ≠ gb473) := ⟨h9_⟩
          have n10_ : Aside0 (gb477 ≠ gb476) := ⟨h10_⟩
          have n11_ : Aside0 (gb476 ≠ gb477) := ⟨h11_⟩
          have n12_ : Aside0 (w.heap.size ≤ gb477) := ⟨h12_⟩
          have n13_ : Aside0 (w.heap.size ≤ gb477) := ⟨h13_⟩
          have n14_ : Aside0 (gb472 ≠ gb477) := ⟨h14_⟩
          have n15_ : Aside0 (gb477 ≠ gb472) := ⟨h15_⟩
          have n16_ : Aside0 (gb473 ≠ gb477) := ⟨h16_⟩
          have n17_ : Aside0 (gb477 ≠ gb473) := ⟨h17_⟩
          have n18_ : Aside0 (Below w.heap.size w w21) := ⟨h18_⟩
          clear BK472
          clear BK473
          clear HB
          clear h0_ h1_ h2_ h3_ h4_ h5_ h6_ h7_ h8_ h9_ h10_ h11_ h12_ h13_ h14_ h15_ h16_ h17_ h18_
          have BK472 := n0_
          have BK473 := n1_
          have BK476 := n2_
          have BK477 := n3_
          have GW476 := n4_
          have GE476 := n5_
          have NB472_476 := n6_
          have NB476_472 := n7_
          have NB473_476 := n8_
          have NB476_473 := n9_
          have NB477_476 := n10_
          have NB476_477 := n11_
          have GW477 := n12_
          have GE477 := n13_
          have NB472_477 := n14_
          have NB477_472 := n15_
          have NB473_477 := n16_
          have NB477_473 := n17_
          have HB := n18_
          clear n0_ n1_ n2_ n3_ n4_ n5_ n6_ n7_ n8_ n9_ n10_ n11_ n12_ n13_ n14_ n15_ n16_ n17_ n18_
          have hHeld : w21.cell? ⟨gb472, 0, none⟩ = some (.slice (some ad474) l0_0.length c0_0) ∧ w21.cell? ⟨gb473, 0, none⟩ = some (.slice (some ad475) l1_0.length c1_0) ∧ w21.cell? (ad474.add ((x5_1).toNat * 3)) = some (.int .i64 ((rd_T59 l0_0 x5_1).f0)) ∧ w21.cell? ⟨(ad474.add ((x5_1).toNat * 3)).block, (ad474.add ((x5_1).toNat * 3)).off + 1, none⟩ = some (.string ((rd_T59 l0_0 x5_1).f1)) ∧ w21.cell? ⟨(ad474.add ((x5_1).toNat * 3)).block, (ad474.add ((x5_1).toNat * 3)).off + 2, none⟩ = some (.slice A474_2 ((rd_T59 l0_0 x5_1).f2).length c474_2) ∧ w21.cell? (ad475.add ((x5_1).toNat * 3)) = some (.int .i64 ((rd_T59 l1_0 x5_1).f0)) ∧ w21.cell? ⟨(ad475.add ((x5_1).toNat * 3)).block, (ad475.add ((x5_1).toNat * 3)).off + 1, none⟩ = some (.string ((rd_T59 l1_0 x5_1).f1)) ∧ w21.cell? ⟨(ad475.add ((x5_1).toNat * 3)).block, (ad475.add ((x5_1).toNat * 3)).off + 2, none⟩ = some (.slice A475_2 ((rd_T59 l1_0 x5_1).f2).length c475_2) := hS_
          refine norm_ (a' := ?_) ?_ ?_
          rotate_left
          ·
           simp only [putAll, Act.put, List.setIfInBounds_toArray, List.set_cons_zero, List.set_cons_succ]
           rfl
          refine o1 12 none rfl rfl (fun K hK => ?_)
          have hs22 : w21.cell? ⟨gb476, 0, none⟩ = some (.int .i64 0) := (blk_cell BK476.out 0).trans rfl
          have hfs22 := blk_frozen BK476.out 0
          have hns22_0 := NB472_476.out
          have hns22_1 := NB473_476.out
          have hns22_3 := NB477_476.out
          have hms22_0 := NB476_472.out
          have hms22_1 := NB476_473.out
          have hms22_3 := NB476_477.out
          have hs23 : w21.cell? ⟨gb476, 1, none⟩ = some (.string (⟨#[]⟩ : ByteArray)) := (blk_cell BK476.out 1).trans rfl
          have hfs23 := blk_frozen BK476.out 1
          have hns23_0 := NB472_476.out
          have hns23_1 := NB473_476.out
          have hns23_3 := NB477_476.out
          have hms23_0 := NB476_472.out
          have hms23_1 := NB476_473.out
          have hms23_3 := NB476_477.out
          have hs24 : w21.cell? ⟨gb476, 2, none⟩ = some (.slice none 0 0) := (blk_cell BK476.out 2).trans rfl
          have hfs24 := blk_frozen BK476.out 2
          have hns24_0 := NB472_476.out
          have hns24_1 := NB473_476.out
          have hns24_3 := NB477_476.out
          have hms24_0 := NB476_472.out
          have hms24_1 := NB476_473.out
          have hms24_3 := NB476_477.out
          refine skip_ (w1 := ?_) (by rfl) rfl ?_ ?_
          rotate_left
          ·
           go_simp
           rfl
          refine hK.out _ _ ⟨(ct NB472_476.out ((ct NB472_476.out ((ct NB472_476.out (hHeld.1)))))), (ct NB473_476.out ((ct NB473_476.out ((ct NB473_476.out (hHeld.2.1)))))), (ct (nb hw474_0 GW476) ((ct (nb hw474_0 GW476) ((ct (nb hw474_0 GW476) (hHeld.2.2.1)))))), (ct (nb hw474_1 GW476) ((ct (nb hw474_1 GW476) ((ct (nb hw474_1 GW476) (hHeld.2.2.2.1)))))), (ct (nb hw474_2 GW476) ((ct (nb hw474_2 GW476) ((ct (nb hw474_2 GW476) (hHeld.2.2.2.2.1)))))), (ct (nb hw475_0 GW476) ((ct (nb hw475_0 GW476) ((ct (nb hw475_0 GW476) (hHeld.2.2.2.2.2.1)))))), (ct (nb hw475_1 GW476) ((ct (nb hw475_1 GW476) ((ct (nb hw475_1 GW476) (hHeld.2.2.2.2.2.2.1)))))), (ct (nb hw475_2 GW476) ((ct (nb hw475_2 GW476) ((ct (nb hw475_2 GW476) (hHeld.2.2.2.2.2.2.2))))))⟩ (fun hHeld => ?_)
          clear hK K
          refine o1 13 none rfl rfl (fun K hK => ?_)
          have hs25 : w21.cell? ⟨gb477, 0, none⟩ = some (.int .i64 0) := (blk_cell BK477.out 0).trans rfl
          have hfs25 := blk_frozen BK477.out 0
          have hns25_0 := NB472_477.out
          have hns25_1 := NB473_477.out
          have hns25_2 := NB476_477.out
          have hms25_0 := NB477_472.out
          have hms25_1 := NB477_473.out
          have hms25_2 := NB477_476.out
          have hs26 : w21.cell? ⟨gb477, 1, none⟩ = some (.string (⟨#[]⟩ : ByteArray)) := (blk_cell BK477.out 1).trans rfl
          have hfs26 := blk_frozen BK477.out 1
          have hns26_0 := NB472_477.out
          have hns26_1 := NB473_477.out
          have hns26_2 := NB476_477.out
          have hms26_0 := NB477_472.out
          have hms26_1 := NB477_473.out
          have hms26_2 := NB477_476.out
          have hs27 : w21.cell? ⟨gb477, 2, none⟩ = some (.slice none 0 0) := (blk_cell BK477.out 2).trans rfl
          have hfs27 := blk_frozen BK477.out 2
          have hns27_0 := NB472_477.out
          have hns27_1 := NB473_477.out
          have hns27_2 := NB476_477.out
          have hms27_0 := NB477_472.out
          have hms27_1 := NB477_473.out
          have hms27_2 := NB477_476.out
          refine skip_ (w1 := ?_) (by rfl) rfl ?_ ?_
          rotate_left
          ·
           go_simp
           rfl
          refine hK.out _ _ ⟨(ct NB472_477.out ((ct NB472_477.out ((ct NB472_477.out (hHeld.1)))))), (ct NB473_477.out ((ct NB473_477.out ((ct NB473_477.out (hHeld.2.1)))))), (ct (nb hw474_0 GW477) ((ct (nb hw474_0 GW477) ((ct (nb hw474_0 GW477) (hHeld.2.2.1)))))), (ct (nb hw474_1 GW477) ((ct (nb hw474_1 GW477) ((ct (nb hw474_1 GW477) (hHeld.2.2.2.1)))))), (ct (nb hw474_2 GW477) ((ct (nb hw474_2 GW477) ((ct (nb hw474_2 GW477) (hHeld.2.2.2.2.1)))))), (ct (nb hw475_0 GW477) ((ct (nb hw475_0 GW477) ((ct (nb hw475_0 GW477) (hHeld.2.2.2.2.2.1)))))), (ct (nb hw475_1 GW477) ((ct (nb hw475_1 GW477) ((ct (nb hw475_1 GW477) (hHeld.2.2.2.2.2.2.1)))))), (ct (nb hw475_2 GW477) ((ct (nb hw475_2 GW477) ((ct (nb hw475_2 GW477) (hHeld.2.2.2.2.2.2.2))))))⟩ (fun hHeld => ?_)
          clear hK K
          refine done_ (done_of HT_.out (by kernel_rfl)) ?_
          have hnb28 := NB476_472.out
          have hnc28 := NB472_476.out
          have hnb29 := NB476_473.out
          have hnc29 := NB473_476.out
          have hnb30 := NB476_477.out
          have hnc30 := NB477_476.out
          obtain ⟨hcz31_0, hcz31_1, hcz31_2, hfz31_0, hfz31_1, hfz31_2⟩ := z3 BK476
          have hnb32 := NB477_472.out
          have hnc32 := NB472_477.out
          have hnb33 := NB477_473.out
          have hnc33 := NB473_477.out
          obtain ⟨hcz34_0, hcz34_1, hcz34_2, hfz34_0, hfz34_1, hfz34_2⟩ := z3 BK477
          try go_wp2_with (first | (go_at_call 32; (with_reducible refine (r10_Same.calls k1 _ _ ((rd_T59 l0_0 x5_1).f2) _ _ ((rd_T59 l1_0 x5_1).f2) true _ ?side1 ?side2 ?side3 ?side4 A14.out).mono ?_); (case side1 => exact Kd.C_below HR474_2.out bl); (case side2 => exact HC474_2.out); (case side3 => exact Kd.C_below HR475_2.out bl); (case side4 => exact HC475_2.out); rintro e w' ⟨rfl, ⟨nd, rfl⟩⟩))
          go_roundg k1
          case measure => have := HK1.out; omega
          case rel => exact ⟨(wrap64 (x5_1 + 1)), rs_, H', ⟨by have := HK1.out; omega⟩, ⟨by (with_reducible repeat (first | refine blk_drewN ?_ _ | refine blk_drew ?_ | refine blk_alloc ?_ _)); refine blk_far ?_ NB472_477.out _; (with_reducible repeat (first | refine blk_drewN ?_ _ | refine blk_drew ?_ | refine blk_alloc ?_ _)); refine blk_far ?_ NB472_477.out _; (with_reducible repeat (first | refine blk_drewN ?_ _ | refine blk_drew ?_ | refine blk_alloc ?_ _)); refine blk_far ?_ NB472_477.out _; (with_reducible repeat (first | refine blk_drewN ?_ _ | refine blk_drew ?_ | refine blk_alloc ?_ _)); refine blk_far ?_ NB472_476.out _; (with_reducible repeat (first | refine blk_drewN ?_ _ | refine blk_drew ?_ | refine blk_alloc ?_ _)); refine blk_far ?_ NB472_476.out _; (with_reducible repeat (first | refine blk_drewN ?_ _ | refine blk_drew ?_ | refine blk_alloc ?_ _)); refine blk_far ?_ NB472_476.out _; exact uB <| BK472.out⟩, ⟨by (with_reducible repeat (first | refine blk_drewN ?_ _ | refine blk_drew ?_ | refine blk_alloc ?_ _)); refine blk_far ?_ NB473_477.out _; (with_reducible repeat (first | refine blk_drewN ?_ _ | refine blk_drew ?_ | refine blk_alloc ?_ _)); refine blk_far ?_ NB473_477.out _; (with_reducible repeat (first | refine blk_drewN ?_ _ | refine blk_drew ?_ | refine blk_alloc ?_ _)); refine blk_far ?_ NB473_477.out _; (with_reducible repeat (first | refine blk_drewN ?_ _ | refine blk_drew ?_ | refine blk_alloc ?_ _)); refine blk_far ?_ NB473_476.out _; (with_reducible repeat (first | refine blk_drewN ?_ _ | refine blk_drew ?_ | refine blk_alloc ?_ _)); refine blk_far ?_ NB473_476.out _; (with_reducible repeat (first | refine blk_drewN ?_ _ | refine blk_drew ?_ | refine blk_alloc ?_ _)); refine blk_far ?_ NB473_476.out _; exact uB <| BK473.out⟩, ⟨bl⟩⟩
         ·
          replace c15 := Bool.eq_false_iff.mpr c15
          subst c15
          rw [if_neg (show ¬ (false = true) by decide)] at H
          obtain rfl := Option.some.inj H
          have hnb35 := NB472_473.out
          have hnc35 := NB473_472.out
          obtain ⟨hcz36_0, hfz36_0⟩ := z1 BK472
          try go_wp2
          replace BK472 := Aside0.mk (blk_drew BK472.out)
          replace BK473 := Aside0.mk (blk_drew BK473.out)
          replace HB := Aside0.mk (below_drew1 HB.out)
          have p474 : 0 ≤ (x5_1 : Int) := od
          have q474 : x5_1 < (l0_0.length : Int) := od
          obtain ⟨ad474, A474_2, c474_2, e474, hx474_0, hx474_1, hx474_2, hl474_2, hi474_2⟩ := at_T59 HR0_0.out x5_1 p474 q474
          have hw474_2 := hx474_2
          have hw474_1 := hx474_1
          have hw474_0 := hx474_0
          cases e474
          replace hx474_0 := kc HB hx474_0
          replace hx474_1 := kc HB hx474_1
          replace hx474_2 := kc HB hx474_2
          have HR474_2 := Aside0.mk hi474_2
          have HC474_2 := Aside0.mk hl474_2
          clear hi474_2 hl474_2
          replace p474 := eq_true p474
          replace q474 := eq_true q474
          have p475 : 0 ≤ (x5_1 : Int) := od
          have q475 : x5_1 < (l1_0.length : Int) := od
          obtain ⟨ad475, A475_2, c475_2, e475, hx475_0, hx475_1, hx475_2, hl475_2, hi475_2⟩ := at_T59 HR1_0.out x5_1 p475 q475
          have hw475_2 := hx475_2
          have hw475_1 := hx475_1
          have hw475_0 := hx475_0
          cases e475
          replace hx475_0 := kc HB hx475_0
          replace hx475_1 := kc HB hx475_1
          replace hx475_2 := kc HB hx475_2
          have HR475_2 := Aside0.mk hi475_2
          have HC475_2 := Aside0.mk hl475_2
          clear hi475_2 hl475_2
          replace p475 := eq_true p475
          replace q475 := eq_true q475
          refine start_ (n := 14) (S := fun w' => w'.cell? ⟨gb472, 0, none⟩ = some (.slice (some ad474) l0_0.length c0_0) ∧ w'.cell? ⟨gb473, 0, none⟩ = some (.slice (some ad475) l1_0.length c1_0) ∧ w'.cell? (ad474.add ((x5_1).toNat * 3)) = some (.int .i64 ((rd_T59 l0_0 x5_1).f0)) ∧ w'.cell? ⟨(ad474.add ((x5_1).toNat * 3)).block, (ad474.add ((x5_1).toNat * 3)).off + 1, none⟩ = some (.string ((rd_T59 l0_0 x5_1).f1)) ∧ w'.cell? ⟨(ad474.add ((x5_1).toNat * 3)).block, (ad474.add ((x5_1).toNat * 3)).off + 2, none⟩ = some (.slice A474_2 ((rd_T59 l0_0 x5_1).f2).length c474_2) ∧ w'.cell? (ad475.add ((x5_1).toNat * 3)) = some (.int .i64 ((rd_T59 l1_0 x5_1).f0)) ∧ w'.cell? ⟨(ad475.add ((x5_1).toNat * 3)).block, (ad475.add ((x5_1).toNat * 3)).off + 1, none⟩ = some (.string ((rd_T59 l1_0 x5_1).f1)) ∧ w'.cell? ⟨(ad475.add ((x5_1).toNat * 3)).block, (ad475.add ((x5_1).toNat * 3)).off + 2, none⟩ = some (.slice A475_2 ((rd_T59 l1_0 x5_1).f2).length c475_2)) (ds := []) _ (by kernel_rfl) rfl rfl ⟨(blk_cell BK472.out 0).trans rfl, (blk_cell BK473.out 0).trans rfl, (kc HB hw474_0), (kc HB hw474_1), (kc HB hw474_2), (kc HB hw475_0), (kc HB hw475_1), (kc HB hw475_2)⟩ (fun hHeld => ?_); refine with_tabW r11_Same.tab6 r11_Same.bits6 (fun HT_ HW_ => ?_)
          generalize wr.drew = w37 at BK472 BK473 HB HR474_2 HR475_2 hx474_0 hx474_1 hx474_2 hx475_0 hx475_1 hx475_2 hHeld ⊢
          refine p1 0 (some 22) ?_
          refine p1 2 (some 24) ?_
          refine p1 5 (some 27) ?_
          refine p1 7 (some 29) ?_
          refine t1 1 (some 23) rfl rfl hHeld (Or.inl ⟨by rfl, by rintro w' ⟨s0, s1, s2, s3, s4, s5, s6, s7⟩; go_simp; with_reducible rfl⟩) ?_
          refine p1 3 (some 25) ?_
          refine t1 4 (some 26) rfl rfl hHeld (Or.inl ⟨by rfl, by rintro w' ⟨s0, s1, s2, s3, s4, s5, s6, s7⟩; go_simp; with_reducible rfl⟩) ?_
          refine t1 6 (some 28) rfl rfl hHeld (Or.inl ⟨by rfl, by rintro w' ⟨s0, s1, s2, s3, s4, s5, s6, s7⟩; go_simp; with_reducible rfl⟩) ?_
          refine p1 8 (some 30) ?_
          refine t1 9 (some 31) rfl rfl hHeld (Or.inl ⟨by rfl, by rintro w' ⟨s0, s1, s2, s3, s4, s5, s6, s7⟩; go_simp; with_reducible rfl⟩) ?_
          refine join_ (σ := Nat × Nat) 2 #[true, true, true, true, true, true, true, true, true, true, true, true, false, false] (fun s_ => [(6, .pointer (some ⟨s_.1, 0, none⟩)), (7, .pointer (some ⟨s_.2, 0, none⟩))]) (fun s_ w' => (w'.cell? ⟨gb472, 0, none⟩ = some (.slice (some ad474) l0_0.length c0_0) ∧ w'.cell? ⟨gb473, 0, none⟩ = some (.slice (some ad475) l1_0.length c1_0) ∧ w'.cell? (ad474.add ((x5_1).toNat * 3)) = some (.int .i64 ((rd_T59 l0_0 x5_1).f0)) ∧ w'.cell? ⟨(ad474.add ((x5_1).toNat * 3)).block, (ad474.add ((x5_1).toNat * 3)).off + 1, none⟩ = some (.string ((rd_T59 l0_0 x5_1).f1)) ∧ w'.cell? ⟨(ad474.add ((x5_1).toNat * 3)).block, (ad474.add ((x5_1).toNat * 3)).off + 2, none⟩ = some (.slice A474_2 ((rd_T59 l0_0 x5_1).f2).length c474_2) ∧ w'.cell? (ad475.add ((x5_1).toNat * 3)) = some (.int .i64 ((rd_T59 l1_0 x5_1).f0)) ∧ w'.cell? ⟨(ad475.add ((x5_1).toNat * 3)).block, (ad475.add ((x5_1).toNat * 3)).off + 1, none⟩ = some (.string ((rd_T59 l1_0 x5_1).f1)) ∧ w'.cell? ⟨(ad475.add ((x5_1).toNat * 3)).block, (ad475.add ((x5_1).toNat * 3)).off + 2, none⟩ = some (.slice A475_2 ((rd_T59 l1_0 x5_1).f2).length c475_2)) ∧ (w'.heap[gb472]? = some (.cells #[.slice (some ad474) l0_0.length c0_0] 24 (0, 0))) ∧ (w'.heap[gb473]? = some (.cells #[.slice (some ad475) l1_0.length c1_0] 24 (0, 0))) ∧ (w'.heap[s_.1]? = some (.cells #[.int .i64 0, .string (⟨#[]⟩ : ByteArray), .slice none 0 0] 59 (0, 0))) ∧ (w'.heap[s_.2]? = some (.cells #[.int .i64 0, .string (⟨#[]⟩ : ByteArray), .slice none 0 0] 59 (0, 0))) ∧ (w.heap.size ≤ s_.1) ∧ (w.heap.size ≤ s_.1) ∧ (gb472 ≠ s_.1) ∧ (s_.1 ≠ gb472) ∧ (gb473 ≠ s_.1) ∧ (s_.1 ≠ gb473) ∧ (s_.2 ≠ s_.1) ∧ (s_.1 ≠ s_.2) ∧ (w.heap.size ≤ s_.2) ∧ (w.heap.size ≤ s_.2) ∧ (gb472 ≠ s_.2) ∧ (s_.2 ≠ gb472) ∧ (gb473 ≠ s_.2) ∧ (s_.2 ≠ gb473) ∧ (Below w.heap.size w w')) ?_ ?_
          rotate_left
          ·
           intro hCont
           refine two_ (i := 10) (j := 11) (Ni := some 6) (Nj := some 7) #[true, true, true, true, true, true, true, true, true, true, true, false, false, false] #[true, true, true, true, true, true, true, true, true, true, false, true, false, false] rfl rfl rfl rfl (two_of HT_.out (by kernel_rfl)) (by decide) (by decide) (fun K hK => ?_) (fun K hK => ?_)
           ·
            skip
            refine box_step ?hg (N := 6) ?hd (cs := #[.int .i64 0, .string (⟨#[]⟩ : ByteArray), .slice none 0 0]) (t := 59) ?hr ?_; (case hd => rfl); (case hg => rfl); (case hr => first | (go_simp; done) | (go_simp; rfl))
            intro gb476 hg w38 hbox hb
            have BK476 := Aside0.mk (hbox)
            have GW476 := gw hg bl
            have GE476 := gw hg bl
            replace HB := Aside0.mk (below_step bl hb)
            have NB472_476 := Aside0.mk ((by rw [hg]; exact Nat.ne_of_lt (blk_lt (g := gb472) (o := .cells #[.slice (some ad474) l0_0.length c0_0] 24 (0, 0)) (uB BK472.out)) : gb472 ≠ gb476))
            have NB476_472 := Aside0.mk ((by rw [hg]; exact Nat.ne_of_gt (blk_lt (g := gb472) (o := .cells #[.slice (some ad474) l0_0.length c0_0] 24 (0, 0)) (uB BK472.out)) : gb476 ≠ gb472))
            replace BK472 := cB BK472 hb
            have NB473_476 := Aside0.mk ((by rw [hg]; exact Nat.ne_of_lt (blk_lt (g := gb473) (o := .cells #[.slice (some ad475) l1_0.length c1_0] 24 (0, 0)) (uB BK473.out)) : gb473 ≠ gb476))
            have NB476_473 := Aside0.mk ((by rw [hg]; exact Nat.ne_of_gt (blk_lt (g := gb473) (o := .cells #[.slice (some ad475) l1_0.length c1_0] 24 (0, 0)) (uB BK473.out)) : gb476 ≠ gb473))
            replace BK473 := cB BK473 hb
            clear hb hbox hg
            refine hK.out _ _ ⟨(blk_cell BK472.out 0).trans rfl, (blk_cell BK473.out 0).trans rfl, (kc HB hw474_0), (kc HB hw474_1), (kc HB hw474_2), (kc HB hw475_0), (kc HB hw475_1), (kc HB hw475_2)⟩ (fun hHeld => ?_)
            clear hK K
            refine norm_ (a' := ?_) ?_ ?_
            rotate_left
            ·
             show Act.put _ (some 6) _ = _
             simp only [Act.put, List.setIfInBounds_toArray, List.set_cons_zero, List.set_cons_succ, i64_w, i32_w]
             rfl
            refine o1 11 (some 7) rfl rfl (fun K hK => ?_)
            refine box_step ?hg (N := 7) ?hd (cs := #[.int .i64 0, .string (⟨#[]⟩ : ByteArray), .slice none 0 0]) (t := 59) ?hr ?_; (case hd => rfl); (case hg => rfl); (case hr => first | (go_simp; done) | (go_simp; rfl))
            intro gb477 hg w39 hbox hb
            have BK477 := Aside0.mk (hbox)
            have GW477 := gw hg bl
            have GE477 := gw hg bl
            replace HB := Aside0.mk (below_step bl hb)
            have NB472_477 := Aside0.mk ((by rw [hg]; exact Nat.ne_of_lt (blk_lt (g := gb472) (o := .cells #[.slice (some ad474) l0_0.length c0_0] 24 (0, 0)) (uB BK472.out)) : gb472 ≠ gb477))
            have NB477_472 := Aside0.mk ((by rw [hg]; exact Nat.ne_of_gt (blk_lt (g := gb472) (o := .cells #[.slice (some ad474) l0_0.length c0_0] 24 (0, 0)) (uB BK472.out)) : gb477 ≠ gb472))
            replace BK472 := cB BK472 hb
            have NB473_477 := Aside0.mk ((by rw [hg]; exact Nat.ne_of_lt (blk_lt (g := gb473) (o := .cells #[.slice (some ad475) l1_0.length c1_0] 24 (0, 0)) (uB BK473.out)) : gb473 ≠ gb477))
            have NB477_473 := Aside0.mk ((by rw [hg]; exact Nat.ne_of_gt (blk_lt (g := gb473) (o := .cells #[.slice (some ad475) l1_0.length c1_0] 24 (0, 0)) (uB BK473.out)) : gb477 ≠ gb473))
            replace BK473 := cB BK473 hb
            have NB476_477 := Aside0.mk ((by rw [hg]; exact Nat.ne_of_lt (blk_lt (g := gb476) (o := .cells #[.int .i64 0, .string (⟨#[]⟩ : ByteArray), .slice none 0 0] 59 (0, 0)) (uB BK476.out)) : gb476 ≠ gb477))
            have NB477_476 := Aside0.mk ((by rw [hg]; exact Nat.ne_of_gt (blk_lt (g := gb476) (o := .cells #[.int .i64 0, .string (⟨#[]⟩ : ByteArray), .slice none 0 0] 59 (0, 0)) (uB BK476.out)) : gb477 ≠ gb476))
            replace BK476 := cB BK476 hb
            clear hb hbox hg
            refine hK.out _ _ ⟨(blk_cell BK472.out 0).trans rfl, (blk_cell BK473.out 0).trans rfl, (kc HB hw474_0), (kc HB hw474_1), (kc HB hw474_2), (kc HB hw475_0), (kc HB hw475_1), (kc HB hw475_2)⟩ (fun hHeld => ?_)
            clear hK K
            refine norm_ (a' := ?_) ?_ ?_
            rotate_left
            ·
             show Act.put _ (some 7) _ = _
             simp only [Act.put, List.setIfInBounds_toArray, List.set_cons_zero, List.set_cons_succ, i64_w, i32_w]
             rfl
            exact norm_ (by simp only [putAll, Act.put, List.setIfInBounds_toArray, List.set_cons_zero, List.set_cons_succ]) (hCont (gb476, gb477) _ ⟨hHeld, (uB BK472.out), (uB BK473.out), (uB BK476.out), (uB BK477.out), GW476.out, GE476.out, NB472_476.out, NB476_472.out, NB473_476.out, NB476_473.out, NB477_476.out, NB476_477.out, GW477.out, GE477.out, NB472_477.out, NB477_472.out, NB473_477.out, NB477_473.out, bl⟩)
           ·
            skip
            refine box_step ?hg (N := 7) ?hd (cs := #[.int .i64 0, .string (⟨#[]⟩ : ByteArray), .slice none 0 0]) (t := 59) ?hr ?_; (case hd => rfl); (case hg => rfl); (case hr => first | (go_simp; done) | (go_simp; rfl))
            intro gb477 hg w38 hbox hb
            have BK477 := Aside0.mk (hbox)
            have GW477 := gw hg bl
            have GE477 := gw hg bl
            replace HB := Aside0.mk (below_step bl hb)
            have NB472_477 := Aside0.mk ((by rw [hg]; exact Nat.ne_of_lt (blk_lt (g := gb472) (o := .cells #[.slice (some ad474) l0_0.length c0_0] 24 (0, 0)) (uB BK472.out)) : gb472 ≠ gb477))
            have NB477_472 := Aside0.mk ((by rw [hg]; exact Nat.ne_of_gt (blk_lt (g := gb472) (o := .cells #[.slice (some ad474) l0_0.length c0_0] 24 (0, 0)) (uB BK472.out)) : gb477 ≠ gb472))
            replace BK472 := cB BK472 hb
            have NB473_477 := Aside0.mk ((by rw [hg]; exact Nat.ne_of_lt (blk_lt (g := gb473) (o := .cells #[.slice (some ad475) l1_0.length c1_0] 24 (0, 0)) (uB BK473.out)) : gb473 ≠ gb477))
            have NB477_473 := Aside0.mk ((by rw [hg]; exact Nat.ne_of_gt (blk_lt (g := gb473) (o := .cells #[.slice (some ad475) l1_0.length c1_0] 24 (0, 0)) (uB BK473.out)) : gb477 ≠ gb473))
            replace BK473 := cB BK473 hb
            clear hb hbox hg
            refine hK.out _ _ ⟨(blk_cell BK472.out 0).trans rfl, (blk_cell BK473.out 0).trans rfl, (kc HB hw474_0), (kc HB hw474_1), (kc HB hw474_2), (kc HB hw475_0), (kc HB hw475_1), (kc HB hw475_2)⟩ (fun hHeld => ?_)
            clear hK K
            refine norm_ (a' := ?_) ?_ ?_
            rotate_left
            ·
             show Act.put _ (some 7) _ = _
             simp only [Act.put, List.setIfInBounds_toArray, List.set_cons_zero, List.set_cons_succ, i64_w, i32_w]
             rfl
            refine o1 10 (some 6) rfl rfl (fun K hK => ?_)
            refine box_step ?hg (N := 6) ?hd (cs := #[.int .i64 0, .string (⟨#[]⟩ : ByteArray), .slice none 0 0]) (t := 59) ?hr ?_; (case hd => rfl); (case hg => rfl); (case hr => first | (go_simp; done) | (go_simp; rfl))
            intro gb476 hg w39 hbox hb
            have BK476 := Aside0.mk (hbox)
            have GW476 := gw hg bl
            have GE476 := gw hg bl
            replace HB := Aside0.mk (below_step bl hb)
            have NB472_476 := Aside0.mk ((by rw [hg]; exact Nat.ne_of_lt (blk_lt (g := gb472) (o := .cells #[.slice (some ad474) l0_0.length c0_0] 24 (0, 0)) (uB BK472.out)) : gb472 ≠ gb476))
            have NB476_472 := Aside0.mk ((by rw [hg]; exact Nat.ne_of_gt (blk_lt (g := gb472) (o := .cells #[.slice (some ad474) l0_0.length c0_0] 24 (0, 0)) (uB BK472.out)) : gb476 ≠ gb472))
            replace BK472 := cB BK472 hb
            have NB473_476 := Aside0.mk ((by rw [hg]; exact Nat.ne_of_lt (blk_lt (g := gb473) (o := .cells #[.slice (some ad475) l1_0.length c1_0] 24 (0, 0)) (uB BK473.out)) : gb473 ≠ gb476))
            have NB476_473 := Aside0.mk ((by rw [hg]; exact Nat.ne_of_gt (blk_lt (g := gb473) (o := .cells #[.slice (some ad475) l1_0.length c1_0] 24 (0, 0)) (uB BK473.out)) : gb476 ≠ gb473))
            replace BK473 := cB BK473 hb
            have NB477_476 := Aside0.mk ((by rw [hg]; exact Nat.ne_of_lt (blk_lt (g := gb477) (o := .cells #[.int .i64 0, .string (⟨#[]⟩ : ByteArray), .slice none 0 0] 59 (0, 0)) (uB BK477.out)) : gb477 ≠ gb476))
            have NB476_477 := Aside0.mk ((by rw [hg]; exact Nat.ne_of_gt (blk_lt (g := gb477) (o := .cells #[.int .i64 0, .string (⟨#[]⟩ : ByteArray), .slice none 0 0] 59 (0, 0)) (uB BK477.out)) : gb476 ≠ gb477))
            replace BK477 := cB BK477 hb
            clear hb hbox hg
            refine hK.out _ _ ⟨(blk_cell BK472.out 0).trans rfl, (blk_cell BK473.out 0).trans rfl, (kc HB hw474_0), (kc HB hw474_1), (kc HB hw474_2), (kc HB hw475_0), (kc HB hw475_1), (kc HB hw475_2)⟩ (fun hHeld => ?_)
            clear hK K
            refine norm_ (a' := ?_) ?_ ?_
            rotate_left
            ·
             show Act.put _ (some 6) _ = _
             simp only [Act.put, List.setIfInBounds_toArray, List.set_cons_zero, List.set_cons_succ, i64_w, i32_w]
             rfl
            exact norm_ (by simp only [putAll, Act.put, List.setIfInBounds_toArray, List.set_cons_zero, List.set_cons_succ]) (hCont (gb476, gb477) _ ⟨hHeld, (uB BK472.out), (uB BK473.out), (uB BK476.out), (uB BK477.out), GW476.out, GE476.out, NB472_476.out, NB476_472.out, NB473_476.out, NB476_473.out, NB477_476.out, NB476_477.out, GW477.out, GE477.out, NB472_477.out, NB477_472.out, NB473_477.out, NB477_473.out, bl⟩)
          rintro ⟨gb476, gb477⟩ w40 ⟨hS_, h0_, h1_, h2_, h3_, h4_, h5_, h6_, h7_, h8_, h9_, h10_, h11_, h12_, h13_, h14_, h15_, h16_, h17_, h18_⟩
          have n0_ : Aside0 (w40.heap[gb472]? = some (.cells #[.slice (some ad474) l0_0.length c0_0] 24 (0, 0))) := ⟨h0_⟩
          have n1_ : Aside0 (w40.heap[gb473]? = some (.cells #[.slice (some ad475) l1_0.length c1_0] 24 (0, 0))) := ⟨h1_⟩
          have n2_ : Aside0 (w40.heap[gb476]? = some (.cells #[.int .i64 0, .string (⟨#[]⟩ : ByteArray), .slice none 0 0] 59 (0, 0))) := ⟨h2_⟩
          have n3_ : Aside0 (w40.heap[gb477]? = some (.cells #[.int .i64 0, .string (⟨#[]⟩ : ByteArray), .slice none 0 0] 59 (0, 0))) := ⟨h3_⟩
          have n4_ : Aside0 (w.heap.size ≤ gb476) := ⟨h4_⟩
          have n5_ : Aside0 (w.heap.size ≤ gb476) := ⟨h5_⟩
          have n6_ : Aside0 (gb472 ≠ gb476) := ⟨h6_⟩
          have n7_ : Aside0 (gb476 ≠ gb472) := ⟨h7_⟩
          have n8_ : Aside0 (gb473 ≠ gb476) := ⟨h8_⟩
          have n9_ : Aside0 (gb476 ≠ gb473) := ⟨h9_⟩
          have n10_ : Aside0 (gb477 ≠ gb476) := ⟨h10_⟩
          have n11_ : Aside0 (gb476 ≠ gb477) := ⟨h11_⟩
          have n12_ : Aside0 (w.heap.size ≤ gb477) := ⟨h12_⟩
          have n13_ : Aside0 (w.heap.size ≤ gb477) := ⟨h13_⟩
          have n14_ : Aside0 (gb472 ≠ gb477) := ⟨h14_⟩
          have n15_ : Aside0 (gb477 ≠ gb472) := ⟨h15_⟩
          have n16_ : Aside0 (gb473 ≠ gb477) := ⟨h16_⟩
          have n17_ : Aside0 (gb477 ≠ gb473) := ⟨h17_⟩
          have n18_ : Aside0 (Below w.heap.size w w40) := ⟨h18_⟩
          clear BK472
          clear BK473
          clear HB
          clear h0_ h1_ h2_ h3_ h4_ h5_ h6_ h7_ h8_ h9_ h10_ h11_ h12_ h13_ h14_ h15_ h16_ h17_ h18_
          have BK472 := n0_
          have BK473 := n1_
          have BK476 := n2_
          have BK477 := n3_
          have GW476 := n4_
          have GE476 := n5_
          have NB472_476 := n6_
          have NB476_472 := n7_
          have NB473_476 := n8_
          have NB476_473 := n9_
          have NB477_476 := n10_
          have NB476_477 := n11_
          have GW477 := n12_
          have GE477 := n13_
          have NB472_477 := n14_
          have NB477_472 := n15_
          have NB473_477 := n16_
          have NB477_473 := n17_
          have HB := n18_
          clear n0_ n1_ n2_ n3_ n4_ n5_ n6_ n7_ n8_ n9_ n10_ n11_ n12_ n13_ n14_ n15_ n16_ n17_ n18_
          have hHeld : w40.cell? ⟨gb472, 0, none⟩ = some (.slice (some ad474) l0_0.length c0_0) ∧ w40.cell? ⟨gb473, 0, none⟩ = some (.slice (some ad475) l1_0.length c1_0) ∧ w40.cell? (ad474.add ((x5_1).toNat * 3)) = some (.int .i64 ((rd_T59 l0_0 x5_1).f0)) ∧ w40.cell? ⟨(ad474.add ((x5_1).toNat * 3)).block, (ad474.add ((x5_1).toNat * 3)).off + 1, none⟩ = some (.string ((rd_T59 l0_0 x5_1).f1)) ∧ w40.cell? ⟨(ad474.add ((x5_1).toNat * 3)).block, (ad474.add ((x5_1).toNat * 3)).off + 2, none⟩ = some (.slice A474_2 ((rd_T59 l0_0 x5_1).f2).length c474_2) ∧ w40.cell? (ad475.add ((x5_1).toNat * 3)) = some (.int .i64 ((rd_T59 l1_0 x5_1).f0)) ∧ w40.cell? ⟨(ad475.add ((x5_1).toNat * 3)).block, (ad475.add ((x5_1).toNat * 3)).off + 1, none⟩ = some (.string ((rd_T59 l1_0 x5_1).f1)) ∧ w40.cell? ⟨(ad475.add ((x5_1).toNat * 3)).block, (ad475.add ((x5_1).toNat * 3)).off + 2, none⟩ = some (.slice A475_2 ((rd_T59 l1_0 x5_1).f2).length c475_2) := hS_
          refine norm_ (a' := ?_) ?_ ?_
          rotate_left
          ·
           simp only [putAll, Act.put, List.setIfInBounds_toArray, List.set_cons_zero, List.set_cons_succ]
           rfl
          refine o1 12 none rfl rfl (fun K hK => ?_)
          have hs41 : w40.cell? ⟨gb476, 0, none⟩ = some (.int .i64 0) := (blk_cell BK476.out 0).trans rfl
          have hfs41 := blk_frozen BK476.out 0
          have hns41_0 := NB472_476.out
          have hns41_1 := NB473_476.out
          have hns41_3 := NB477_476.out
          have hms41_0 := NB476_472.out
          have hms41_1 := NB476_473.out
          have hms41_3 := NB476_477.out
          have hs42 : w40.cell? ⟨gb476, 1, none⟩ = some (.string (⟨#[]⟩ : ByteArray)) := (blk_cell BK476.out 1).trans rfl
          have hfs42 := blk_frozen BK476.out 1
          have hns42_0 := NB472_476.out
          have hns42_1 := NB473_476.out
          have hns42_3 := NB477_476.out
          have hms42_0 := NB476_472.out
          have hms42_1 := NB476_473.out
          have hms42_3 := NB476_477.out
          have hs43 : w40.cell? ⟨gb476, 2, none⟩ = some (.slice none 0 0) := (blk_cell BK476.out 2).trans rfl
          have hfs43 := blk_frozen BK476.out 2
          have hns43_0 := NB472_476.out
          have hns43_1 := NB473_476.out
          have hns43_3 := NB477_476.out
          have hms43_0 := NB476_472.out
          have hms43_1 := NB476_473.out
          have hms43_3 := NB476_477.out
          refine skip_ (w1 := ?_) (by rfl) rfl ?_ ?_
          rotate_left
          ·
           go_simp
           rfl
          refine hK.out _ _ ⟨(ct NB472_476.out ((ct NB472_476.out ((ct NB472_476.out (hHeld.1)))))), (ct NB473_476.out ((ct NB473_476.out ((ct NB473_476.out (hHeld.2.1)))))), (ct (nb hw474_0 GW476) ((ct (nb hw474_0 GW476) ((ct (nb hw474_0 GW476) (hHeld.2.2.1)))))), (ct (nb hw474_1 GW476) ((ct (nb hw474_1 GW476) ((ct (nb hw474_1 GW476) (hHeld.2.2.2.1)))))), (ct (nb hw474_2 GW476) ((ct (nb hw474_2 GW476) ((ct (nb hw474_2 GW476) (hHeld.2.2.2.2.1)))))), (ct (nb hw475_0 GW476) ((ct (nb hw475_0 GW476) ((ct (nb hw475_0 GW476) (hHeld.2.2.2.2.2.1)))))), (ct (nb hw475_1 GW476) ((ct (nb hw475_1 GW476) ((ct (nb hw475_1 GW476) (hHeld.2.2.2.2.2.2.1)))))), (ct (nb hw475_2 GW476) ((ct (nb hw475_2 GW476) ((ct (nb hw475_2 GW476) (hHeld.2.2.2.2.2.2.2))))))⟩ (fun hHeld => ?_)
          clear hK K
          refine o1 13 none rfl rfl (fun K hK => ?_)
          have hs44 : w40.cell? ⟨gb477, 0, none⟩ = some (.int .i64 0) := (blk_cell BK477.out 0).trans rfl
          have hfs44 := blk_frozen BK477.out 0
          have hns44_0 := NB472_477.out
          have hns44_1 := NB473_477.out
          have hns44_2 := NB476_477.out
          have hms44_0 := NB477_472.out
          have hms44_1 := NB477_473.out
          have hms44_2 := NB477_476.out
          have hs45 : w40.cell? ⟨gb477, 1, none⟩ = some (.string (⟨#[]⟩ : ByteArray)) := (blk_cell BK477.out 1).trans rfl
          have hfs45 := blk_frozen BK477.out 1
          have hns45_0 := NB472_477.out
          have hns45_1 := NB473_477.out
          have hns45_2 := NB476_477.out
          have hms45_0 := NB477_472.out
          have hms45_1 := NB477_473.out
          have hms45_2 := NB477_476.out
          have hs46 : w40.cell? ⟨gb477, 2, none⟩ = some (.slice none 0 0) := (blk_cell BK477.out 2).trans rfl
          have hfs46 := blk_frozen BK477.out 2
          have hns46_0 := NB472_477.out
          have hns46_1 := NB473_477.out
          have hns46_2 := NB476_477.out
          have hms46_0 := NB477_472.out
          have hms46_1 := NB477_473.out
          have hms46_2 := NB477_476.out
          refine skip_ (w1 := ?_) (by rfl) rfl ?_ ?_
          rotate_left
          ·
           go_simp
           rfl
          refine hK.out _ _ ⟨(ct NB472_477.out ((ct NB472_477.out ((ct NB472_477.out (hHeld.1)))))), (ct NB473_477.out ((ct NB473_477.out ((ct NB473_477.out (hHeld.2.1)))))), (ct (nb hw474_0 GW477) ((ct (nb hw474_0 GW477) ((ct (nb hw474_0 GW477) (hHeld.2.2.1)))))), (ct (nb hw474_1 GW477) ((ct (nb hw474_1 GW477) ((ct (nb hw474_1 GW477) (hHeld.2.2.2.1)))))), (ct (nb hw474_2 GW477) ((ct (nb hw474_2 GW477) ((ct (nb hw474_2 GW477) (hHeld.2.2.2.2.1)))))), (ct (nb hw475_0 GW477) ((ct (nb hw475_0 GW477) ((ct (nb hw475_0 GW477) (hHeld.2.2.2.2.2.1)))))), (ct (nb hw475_1 GW477) ((ct (nb hw475_1 GW477) ((ct (nb hw475_1 GW477) (hHeld.2.2.2.2.2.2.1)))))), (ct (nb hw475_2 GW477) ((ct (nb hw475_2 GW477) ((ct (nb hw475_2 GW477) (hHeld.2.2.2.2.2.2.2))))))⟩ (fun hHeld => ?_)
          clear hK K
          refine done_ (done_of HT_.out (by kernel_rfl)) ?_
          have hnb47 := NB476_472.out
          have hnc47 := NB472_476.out
          have hnb48 := NB476_473.out
          have hnc48 := NB473_476.out
          have hnb49 := NB476_477.out
          have hnc49 := NB477_476.out
          obtain ⟨hcz50_0, hcz50_1, hcz50_2, hfz50_0, hfz50_1, hfz50_2⟩ := z3 BK476
          have hnb51 := NB477_472.out
          have hnc51 := NB472_477.out
          have hnb52 := NB477_473.out
          have hnc52 := NB473_477.out
          obtain ⟨hcz53_0, hcz53_1, hcz53_2, hfz53_0, hfz53_1, hfz53_2⟩ := z3 BK477
          try go_wp2_with (first | (go_at_call 32; (with_reducible refine (r10_Same.calls k1 _ _ ((rd_T59 l0_0 x5_1).f2) _ _ ((rd_T59 l1_0 x5_1).f2) false _ ?side1 ?side2 ?side3 ?side4 A14.out).mono ?_); (case side1 => exact Kd.C_below HR474_2.out bl); (case side2 => exact HC474_2.out); (case side3 => exact Kd.C_below HR475_2.out bl); (case side4 => exact HC475_2.out); rintro e w' ⟨rfl, ⟨nd, rfl⟩⟩))
          go_ret
          exact ⟨re_, bl⟩
        ·
         rw [if_neg c13] at H
         have c13b0 : (((rd_T59 l0_0 x5_1).f1).toList == ((rd_T59 l1_0 x5_1).f1).toList) = false := beq_eq_false_iff_ne.mpr c13
         have c13b1 : (((rd_T59 l0_0 x5_1).f1).toList != ((rd_T59 l1_0 x5_1).f1).toList) = true := bne_iff_ne.mpr c13
         obtain rfl := Option.some.inj H
         have hnb54 := NB472_473.out
         have hnc54 := NB473_472.out
         obtain ⟨hcz55_0, hfz55_0⟩ := z1 BK472
         try go_wp2
         replace BK472 := Aside0.mk (blk_drew BK472.out)
         replace BK473 := Aside0.mk (blk_drew BK473.out)
         replace HB := Aside0.mk (below_drew1 HB.out)
         have p474 : 0 ≤ (x5_1 : Int) := od
         have q474 : x5_1 < (l0_0.length : Int) := od
         obtain ⟨ad474, A474_2, c474_2, e474, hx474_0, hx474_1, hx474_2, hl474_2, hi474_2⟩ := at_T59 HR0_0.out x5_1 p474 q474
         have hw474_2 := hx474_2
         have hw474_1 := hx474_1
         have hw474_0 := hx474_0
         cases e474
         replace hx474_0 := kc HB hx474_0
         replace hx474_1 := kc HB hx474_1
         replace hx474_2 := kc HB hx474_2
         have HR474_2 := Aside0.mk hi474_2
         have HC474_2 := Aside0.mk hl474_2
         clear hi474_2 hl474_2
         replace p474 := eq_true p474
         replace q474 := eq_true q474
         have p475 : 0 ≤ (x5_1 : Int) := od
         have q475 : x5_1 < (l1_0.length : Int) := od
         obtain ⟨ad475, A475_2, c475_2, e475, hx475_0, hx475_1, hx475_2, hl475_2, hi475_2⟩ := at_T59 HR1_0.out x5_1 p475 q475
         have hw475_2 := hx475_2
         have hw475_1 := hx475_1
         have hw475_0 := hx475_0
         cases e475
         replace hx475_0 := kc HB hx475_0
         replace hx475_1 := kc HB hx475_1
         replace hx475_2 := kc HB hx475_2
         have HR475_2 := Aside0.mk hi475_2
         have HC475_2 := Aside0.mk hl475_2
         clear hi475_2 hl475_2
         replace p475 := eq_true p475
         replace q475 := eq_true q475
         refine start_ (n := 14) (S := fun w' => w'.cell? ⟨gb472, 0, none⟩ = some (.slice (some ad474) l0_0.length c0_0) ∧ w'.cell? ⟨gb473, 0, none⟩ = some (.slice (some ad475) l1_0.length c1_0) ∧ w'.cell? (ad474.add ((x5_1).toNat * 3)) = some (.int .i64 ((rd_T59 l0_0 x5_1).f0)) ∧ w'.cell? ⟨(ad474.add ((x5_1).toNat * 3)).block, (ad474.add ((x5_1).toNat * 3)).off + 1, none⟩ = some (.string ((rd_T59 l0_0 x5_1).f1)) ∧ w'.cell? ⟨(ad474.add ((x5_1).toNat * 3)).block, (ad474.add ((x5_1).toNat * 3)).off + 2, none⟩ = some (.slice A474_2 ((rd_T59 l0_0 x5_1).f2).length c474_2) ∧ w'.cell? (ad475.add ((x5_1).toNat * 3)) = some (.int .i64 ((rd_T59 l1_0 x5_1).f0)) ∧ w'.cell? ⟨(ad475.add ((x5_1).toNat * 3)).block, (ad475.add ((x5_1).toNat * 3)).off + 1, none⟩ = some (.string ((rd_T59 l1_0 x5_1).f1)) ∧ w'.cell? ⟨(ad475.add ((x5_1).toNat * 3)).block, (ad475.add ((x5_1).toNat * 3)).off + 2, none⟩ = some (.slice A475_2 ((rd_T59 l1_0 x5_1).f2).length c475_2)) (ds := []) _ (by kernel_rfl) rfl rfl ⟨(blk_cell BK472.out 0).trans rfl, (blk_cell BK473.out 0).trans rfl, (kc HB hw474_0), (kc HB hw474_1), (kc HB hw474_2), (kc HB hw475_0), (kc HB hw475_1), (kc HB hw475_2)⟩ (fun hHeld => ?_); refine with_tabW r11_Same.tab6 r11_Same.bits6 (fun HT_ HW_ => ?_)
         generalize wr.drew = w56 at BK472 BK473 HB HR474_2 HR475_2 hx474_0 hx474_1 hx474_2 hx475_0 hx475_1 hx475_2 hHeld ⊢
         refine p1 0 (some 22) ?_
         refine p1 2 (some 24) ?_
         refine p1 5 (some 27) ?_
         refine p1 7 (some 29) ?_
         refine t1 1 (some 23) rfl rfl hHeld (Or.inl ⟨by rfl, by rintro w' ⟨s0, s1, s2, s3, s4, s5, s6, s7⟩; go_simp; with_reducible rfl⟩) ?_
         refine p1 3 (some 25) ?_
         refine t1 4 (some 26) rfl rfl hHeld (Or.inl ⟨by rfl, by rintro w' ⟨s0, s1, s2, s3, s4, s5, s6, s7⟩; go_simp; with_reducible rfl⟩) ?_
         refine t1 6 (some 28) rfl rfl hHeld (Or.inl ⟨by rfl, by rintro w' ⟨s0, s1, s2, s3, s4, s5, s6, s7⟩; go_simp; with_reducible rfl⟩) ?_
         refine p1 8 (some 30) ?_
         refine t1 9 (some 31) rfl rfl hHeld (Or.inl ⟨by rfl, by rintro w' ⟨s0, s1, s2, s3, s4, s5, s6, s7⟩; go_simp; with_reducible rfl⟩) ?_
         refine join_ (σ := Nat × Nat) 2 #[true, true, true, true, true, true, true, true, true, true, true, true, false, false] (fun s_ => [(6, .pointer (some ⟨s_.1, 0, none⟩)), (7, .pointer (some ⟨s_.2, 0, none⟩))]) (fun s_ w' => (w'.cell? ⟨gb472, 0, none⟩ = some (.slice (some ad474) l0_0.length c0_0) ∧ w'.cell? ⟨gb473, 0, none⟩ = some (.slice (some ad475) l1_0.length c1_0) ∧ w'.cell? (ad474.add ((x5_1).toNat * 3)) = some (.int .i64 ((rd_T59 l0_0 x5_1).f0)) ∧ w'.cell? ⟨(ad474.add ((x5_1).toNat * 3)).block, (ad474.add ((x5_1).toNat * 3)).off + 1, none⟩ = some (.string ((rd_T59 l0_0 x5_1).f1)) ∧ w'.cell? ⟨(ad474.add ((x5_1).toNat * 3)).block, (ad474.add ((x5_1).toNat * 3)).off + 2, none⟩ = some (.slice A474_2 ((rd_T59 l0_0 x5_1).f2).length c474_2) ∧ w'.cell? (ad475.add ((x5_1).toNat * 3)) = some (.int .i64 ((rd_T59 l1_0 x5_1).f0)) ∧ w'.cell? ⟨(ad475.add ((x5_1).toNat * 3)).block, (ad475.add ((x5_1).toNat * 3)).off + 1, none⟩ = some (.string ((rd_T59 l1_0 x5_1).f1)) ∧ w'.cell? ⟨(ad475.add ((x5_1).toNat * 3)).block, (ad475.add ((x5_1).toNat * 3)).off + 2, none⟩ = some (.slice A475_2 ((rd_T59 l1_0 x5_1).f2).length c475_2)) ∧ (w'.heap[gb472]? = some (.cells #[.slice (some ad474) l0_0.length c0_0] 24 (0, 0))) ∧ (w'.heap[gb473]? = some (.cells #[.slice (some ad475) l1_0.length c1_0] 24 (0, 0))) ∧ (w'.heap[s_.1]? = some (.cells #[.int .i64 0, .string (⟨#[]⟩ : ByteArray), .slice none 0 0] 59 (0, 0))) ∧ (w'.heap[s_.2]? = some (.cells #[.int .i64 0, .string (⟨#[]⟩ : ByteArray), .slice none 0 0] 59 (0, 0))) ∧ (w.heap.size ≤ s_.1) ∧ (w.heap.size ≤ s_.1) ∧ (gb472 ≠ s_.1) ∧ (s_.1 ≠ gb472) ∧ (gb473 ≠ s_.1) ∧ (s_.1 ≠ gb473) ∧ (s_.2 ≠ s_.1) ∧ (s_.1 ≠ s_.2) ∧ (w.heap.size ≤ s_.2) ∧ (w.heap.size ≤ s_.2) ∧ (gb472 ≠ s_.2) ∧ (s_.2 ≠ gb472) ∧ (gb473 ≠ s_.2) ∧ (s_.2 ≠ gb473) ∧ (Below w.heap.size w w')) ?_ ?_
         rotate_left
         ·
          intro hCont
          refine two_ (i := 10) (j := 11) (Ni := some 6) (Nj := some 7) #[true, true, true, true, true, true, true, true, true, true, true, false, false, false] #[true, true, true, true, true, true, true, true, true, true, false, true, false, false] rfl rfl rfl rfl (two_of HT_.out (by kernel_rfl)) (by decide) (by decide) (fun K hK => ?_) (fun K hK => ?_)
          ·
           skip
           refine box_step ?hg (N := 6) ?hd (cs := #[.int .i64 0, .string (⟨#[]⟩ : ByteArray), .slice none 0 0]) (t := 59) ?hr ?_; (case hd => rfl); (case hg => rfl); (case hr => first | (go_simp; done) | (go_simp; rfl))
           intro gb476 hg w57 hbox hb
           have BK476 := Aside0.mk (hbox)
           have GW476 := gw hg bl
           have GE476 := gw hg bl
           replace HB := Aside0.mk (below_step bl hb)
           have NB472_476 := Aside0.mk ((by rw [hg]; exact Nat.ne_of_lt (blk_lt (g := gb472) (o := .cells #[.slice (some ad474) l0_0.length c0_0] 24 (0, 0)) (uB BK472.out)) : gb472 ≠ gb476))
           have NB476_472 := Aside0.mk ((by rw [hg]; exact Nat.ne_of_gt (blk_lt (g := gb472) (o := .cells #[.slice (some ad474) l0_0.length c0_0] 24 (0, 0)) (uB BK472.out)) : gb476 ≠ gb472))
           replace BK472 := cB BK472 hb
           have NB473_476 := Aside0.mk ((by rw [hg]; exact Nat.ne_of_lt (blk_lt (g := gb473) (o := .cells #[.slice (some ad475) l1_0.length c1_0] 24 (0, 0)) (uB BK473.out)) : gb473 ≠ gb476))
           have NB476_473 := Aside0.mk ((by rw [hg]; exact Nat.ne_of_gt (blk_lt (g := gb473) (o := .cells #[.slice (some ad475) l1_0.length c1_0] 24 (0, 0)) (uB BK473.out)) : gb476 ≠ gb473))
           replace BK473 := cB BK473 hb
           clear hb hbox hg
           refine hK.out _ _ ⟨(blk_cell BK472.out 0).trans rfl, (blk_cell BK473.out 0).trans rfl, (kc HB hw474_0), (kc HB hw474_1), (kc HB hw474_2), (kc HB hw475_0), (kc HB hw475_1), (kc HB hw475_2)⟩ (fun hHeld => ?_)
           clear hK K
           refine norm_ (a' := ?_) ?_ ?_
           rotate_left
           ·
            show Act.put _ (some 6) _ = _
            simp only [Act.put, List.setIfInBounds_toArray, List.set_cons_zero, List.set_cons_succ, i64_w, i32_w]
            rfl
           refine o1 11 (some 7) rfl rfl (fun K hK => ?_)
           refine box_step ?hg (N := 7) ?hd (cs := #[.int .i64 0, .string (⟨#[]⟩ : ByteArray), .slice none 0 0]) (t := 59) ?hr ?_; (case hd => rfl); (case hg => rfl); (case hr => first | (go_simp; done) | (go_simp; rfl))
           intro gb477 hg w58 hbox hb
           have BK477 := Aside0.mk (hbox)
           have GW477 := gw hg bl
           have GE477 := gw hg bl
           replace HB := Aside0.mk (below_step bl hb)
           have NB472_477 := Aside0.mk ((by rw [hg]; exact Nat.ne_of_lt (blk_lt (g := gb472) (o := .cells #[.slice (some ad474) l0_0.length c0_0] 24 (0, 0)) (uB BK472.out)) : gb472 ≠ gb477))
           have NB477_472 := Aside0.mk ((by rw [hg]; exact Nat.ne_of_gt (blk_lt (g := gb472) (o := .cells #[.slice (some ad474) l0_0.length c0_0] 24 (0, 0)) (uB BK472.out)) : gb477 ≠ gb472))
           replace BK472 := cB BK472 hb
           have NB473_477 := Aside0.mk ((by rw [hg]; exact Nat.ne_of_lt (blk_lt (g := gb473) (o := .cells #[.slice (some ad475) l1_0.length c1_0] 24 (0, 0)) (uB BK473.out)) : gb473 ≠ gb477))
           have NB477_473 := Aside0.mk ((by rw [hg]; exact Nat.ne_of_gt (blk_lt (g := gb473) (o := .cells #[.slice (some ad475) l1_0.length c1_0] 24 (0, 0)) (uB BK473.out)) : gb477 ≠ gb473))
           replace BK473 := cB BK473 hb
           have NB476_477 := Aside0.mk ((by rw [hg]; exact Nat.ne_of_lt (blk_lt (g := gb476) (o := .cells #[.int .i64 0, .string (⟨#[]⟩ : ByteArray), .slice none 0 0] 59 (0, 0)) (uB BK476.out)) : gb476 ≠ gb477))
           have NB477_476 := Aside0.mk ((by rw [hg]; exact Nat.ne_of_gt (blk_lt (g := gb476) (o := .cells #[.int .i64 0, .string (⟨#[]⟩ : ByteArray), .slice none 0 0] 59 (0, 0)) (uB BK476.out)) : gb477 ≠ gb476))
           replace BK476 := cB BK476 hb
           clear hb hbox hg
           refine hK.out _ _ ⟨(blk_cell BK472.out 0).trans rfl, (blk_cell BK473.out 0).trans rfl, (kc HB hw474_0), (kc HB hw474_1), (kc HB hw474_2), (kc HB hw475_0), (kc HB hw475_1), (kc HB hw475_2)⟩ (fun hHeld => ?_)
           clear hK K
           refine norm_ (a' := ?_) ?_ ?_
           rotate_left
           ·
            show Act.put _ (some 7) _ = _
            simp only [Act.put, List.setIfInBounds_toArray, List.set_cons_zero, List.set_cons_succ, i64_w, i32_w]
            rfl
           exact norm_ (by simp only [putAll, Act.put, List.setIfInBounds_toArray, List.set_cons_zero, List.set_cons_succ]) (hCont (gb476, gb477) _ ⟨hHeld, (uB BK472.out), (uB BK473.out), (uB BK476.out), (uB BK477.out), GW476.out, GE476.out, NB472_476.out, NB476_472.out, NB473_476.out, NB476_473.out, NB477_476.out, NB476_477.out, GW477.out, GE477.out, NB472_477.out, NB477_472.out, NB473_477.out, NB477_473.out, bl⟩)
          ·
           skip
           refine box_step ?hg (N := 7) ?hd (cs := #[.int .i64 0, .string (⟨#[]⟩ : ByteArray), .slice none 0 0]) (t := 59) ?hr ?_; (case hd => rfl); (case hg => rfl); (case hr => first | (go_simp; done) | (go_simp; rfl))
           intro gb477 hg w57 hbox hb
           have BK477 := Aside0.mk (hbox)
           have GW477 := gw hg bl
           have GE477 := gw hg bl
           replace HB := Aside0.mk (below_step bl hb)
           have NB472_477 := Aside0.mk ((by rw [hg]; exact Nat.ne_of_lt (blk_lt (g := gb472) (o := .cells #[.slice (some ad474) l0_0.length c0_0] 24 (0, 0)) (uB BK472.out)) : gb472 ≠ gb477))
           have NB477_472 := Aside0.mk ((by rw [hg]; exact Nat.ne_of_gt (blk_lt (g := gb472) (o := .cells #[.slice (some ad474) l0_0.length c0_0] 24 (0, 0)) (uB BK472.out)) : gb477 ≠ gb472))
           replace BK472 := cB BK472 hb
           have NB473_477 := Aside0.mk ((by rw [hg]; exact Nat.ne_of_lt (blk_lt (g := gb473) (o := .cells #[.slice (some ad475) l1_0.length c1_0] 24 (0, 0)) (uB BK473.out)) : gb473 ≠ gb477))
           have NB477_473 := Aside0.mk ((by rw [hg]; exact Nat.ne_of_gt (blk_lt (g := gb473) (o := .cells #[.slice (some ad475) l1_0.length c1_0] 24 (0, 0)) (uB BK473.out)) : gb477 ≠ gb473))
           replace BK473 := cB BK473 hb
           clear hb hbox hg
           refine hK.out _ _ ⟨(blk_cell BK472.out 0).trans rfl, (blk_cell BK473.out 0).trans rfl, (kc HB hw474_0), (kc HB hw474_1), (kc HB hw474_2), (kc HB hw475_0), (kc HB hw475_1), (kc HB hw475_2)⟩ (fun hHeld => ?_)
           clear hK K
           refine norm_ (a' := ?_) ?_ ?_
           rotate_left
           ·
            show Act.put _ (some 7) _ = _
            simp only [Act.put, List.setIfInBounds_toArray, List.set_cons_zero, List.set_cons_succ, i64_w, i32_w]
            rfl
           refine o1 10 (some 6) rfl rfl (fun K hK => ?_)
           refine box_step ?hg (N := 6) ?hd (cs := #[.int .i64 0, .string (⟨#[]⟩ : ByteArray), .slice none 0 0]) (t := 59) ?hr ?_; (case hd => rfl); (case hg => rfl); (case hr => first | (go_simp; done) | (go_simp; rfl))
           intro gb476 hg w58 hbox hb
           have BK476 := Aside0.mk (hbox)
           have GW476 := gw hg bl
           have GE476 := gw hg bl
           replace HB := Aside0.mk (below_step bl hb)
           have NB472_476 := Aside0.mk ((by rw [hg]; exact Nat.ne_of_lt (blk_lt (g := gb472) (o := .cells #[.slice (some ad474) l0_0.length c0_0] 24 (0, 0)) (uB BK472.out)) : gb472 ≠ gb476))
           have NB476_472 := Aside0.mk ((by rw [hg]; exact Nat.ne_of_gt (blk_lt (g := gb472) (o := .cells #[.slice (some ad474) l0_0.length c0_0] 24 (0, 0)) (uB BK472.out)) : gb476 ≠ gb472))
           replace BK472 := cB BK472 hb
           have NB473_476 := Aside0.mk ((by rw [hg]; exact Nat.ne_of_lt (blk_lt (g := gb473) (o := .cells #[.slice (some ad475) l1_0.length c1_0] 24 (0, 0)) (uB BK473.out)) : gb473 ≠ gb476))
           have NB476_473 := Aside0.mk ((by rw [hg]; exact Nat.ne_of_gt (blk_lt (g := gb473) (o := .cells #[.slice (some ad475) l1_0.length c1_0] 24 (0, 0)) (uB BK473.out)) : gb476 ≠ gb473))
           replace BK473 := cB BK473 hb
           have NB477_476 := Aside0.mk ((by rw [hg]; exact Nat.ne_of_lt (blk_lt (g := gb477) (o := .cells #[.int .i64 0, .string (⟨#[]⟩ : ByteArray), .slice none 0 0] 59 (0, 0)) (uB BK477.out)) : gb477 ≠ gb476))
           have NB476_477 := Aside0.mk ((by rw [hg]; exact Nat.ne_of_gt (blk_lt (g := gb477) (o := .cells #[.int .i64 0, .string (⟨#[]⟩ : ByteArray), .slice none 0 0] 59 (0, 0)) (uB BK477.out)) : gb476 ≠ gb477))
           replace BK477 := cB BK477 hb
           clear hb hbox hg
           refine hK.out _ _ ⟨(blk_cell BK472.out 0).trans rfl, (blk_cell BK473.out 0).trans rfl, (kc HB hw474_0), (kc HB hw474_1), (kc HB hw474_2), (kc HB hw475_0), (kc HB hw475_1), (kc HB hw475_2)⟩ (fun hHeld => ?_)
           clear hK K
           refine norm_ (a' := ?_) ?_ ?_
           rotate_left
           ·
            show Act.put _ (some 6) _ = _
            simp only [Act.put, List.setIfInBounds_toArray, List.set_cons_zero, List.set_cons_succ, i64_w, i32_w]
            rfl
           exact norm_ (by simp only [putAll, Act.put, List.setIfInBounds_toArray, List.set_cons_zero, List.set_cons_succ]) (hCont (gb476, gb477) _ ⟨hHeld, (uB BK472.out), (uB BK473.out), (uB BK476.out), (uB BK477.out), GW476.out, GE476.out, NB472_476.out, NB476_472.out, NB473_476.out, NB476_473.out, NB477_476.out, NB476_477.out, GW477.out, GE477.out, NB472_477.out, NB477_472.out, NB473_477.out, NB477_473.out, bl⟩)
         rintro ⟨gb476, gb477⟩ w59 ⟨hS_, h0_, h1_, h2_, h3_, h4_, h5_, h6_, h7_, h8_, h9_, h10_, h11_, h12_, h13_, h14_, h15_, h16_, h17_, h18_⟩
         have n0_ : Aside0 (w59.heap[gb472]? = some (.cells #[.slice (some ad474) l0_0.length c0_0] 24 (0, 0))) := ⟨h0_⟩
         have n1_ : Aside0 (w59.heap[gb473]? = some (.cells #[.slice (some ad475) l1_0.length c1_0] 24 (0, 0))) := ⟨h1_⟩
         have n2_ : Aside0 (w59.heap[gb476]? = some (.cells #[.int .i64 0, .string (⟨#[]⟩ : ByteArray), .slice none 0 0] 59 (0, 0))) := ⟨h2_⟩
         have n3_ : Aside0 (w59.heap[gb477]? = some (.cells #[.int .i64 0, .string (⟨#[]⟩ : ByteArray), .slice none 0 0] 59 (0, 0))) := ⟨h3_⟩
         have n4_ : Aside0 (w.heap.size ≤ gb476) := ⟨h4_⟩
         have n5_ : Aside0 (w.heap.size ≤ gb476) := ⟨h5_⟩
         have n6_ : Aside0 (gb472 ≠ gb476) := ⟨h6_⟩
         have n7_ : Aside0 (gb476 ≠ gb472) := ⟨h7_⟩
         have n8_ : Aside0 (gb473 ≠ gb476) := ⟨h8_⟩
         have n9_ : Aside0 (gb476 ≠ gb473) := ⟨h9_⟩
         have n10_ : Aside0 (gb477 ≠ gb476) := ⟨h10_⟩
         have n11_ : Aside0 (gb476 ≠ gb477) := ⟨h11_⟩
         have n12_ : Aside0 (w.heap.size ≤ gb477) := ⟨h12_⟩
         have n13_ : Aside0 (w.heap.size ≤ gb477) := ⟨h13_⟩
         have n14_ : Aside0 (gb472 ≠ gb477) := ⟨h14_⟩
         have n15_ : Aside0 (gb477 ≠ gb472) := ⟨h15_⟩
         have n16_ : Aside0 (gb473 ≠ gb477) := ⟨h16_⟩
         have n17_ : Aside0 (gb477 ≠ gb473) := ⟨h17_⟩
         have n18_ : Aside0 (Below w.heap.size w w59) := ⟨h18_⟩
         clear BK472
         clear BK473
         clear HB
         clear h0_ h1_ h2_ h3_ h4_ h5_ h6_ h7_ h8_ h9_ h10_ h11_ h12_ h13_ h14_ h15_ h16_ h17_ h18_
         have BK472 := n0_
         have BK473 := n1_
         have BK476 := n2_
         have BK477 := n3_
         have GW476 := n4_
         have GE476 := n5_
         have NB472_476 := n6_
         have NB476_472 := n7_
         have NB473_476 := n8_
         have NB476_473 := n9_
         have NB477_476 := n10_
         have NB476_477 := n11_
         have GW477 := n12_
         have GE477 := n13_
         have NB472_477 := n14_
         have NB477_472 := n15_
         have NB473_477 := n16_
         have NB477_473 := n17_
         have HB := n18_
         clear n0_ n1_ n2_ n3_ n4_ n5_ n6_ n7_ n8_ n9_ n10_ n11_ n12_ n13_ n14_ n15_ n16_ n17_ n18_
         have hHeld : w59.cell? ⟨gb472, 0, none⟩ = some (.slice (some ad474) l0_0.length c0_0) ∧ w59.cell? ⟨gb473, 0, none⟩ = some (.slice (some ad475) l1_0.length c1_0) ∧ w59.cell? (ad474.add ((x5_1).toNat * 3)) = some (.int .i64 ((rd_T59 l0_0 x5_1).f0)) ∧ w59.cell? ⟨(ad474.add ((x5_1).toNat * 3)).block, (ad474.add ((x5_1).toNat * 3)).off + 1, none⟩ = some (.string ((rd_T59 l0_0 x5_1).f1)) ∧ w59.cell? ⟨(ad474.add ((x5_1).toNat * 3)).block, (ad474.add ((x5_1).toNat * 3)).off + 2, none⟩ = some (.slice A474_2 ((rd_T59 l0_0 x5_1).f2).length c474_2) ∧ w59.cell? (ad475.add ((x5_1).toNat * 3)) = some (.int .i64 ((rd_T59 l1_0 x5_1).f0)) ∧ w59.cell? ⟨(ad475.add ((x5_1).toNat * 3)).block, (ad475.add ((x5_1).toNat * 3)).off + 1, none⟩ = some (.string ((rd_T59 l1_0 x5_1).f1)) ∧ w59.cell? ⟨(ad475.add ((x5_1).toNat * 3)).block, (ad475.add ((x5_1).toNat * 3)).off + 2, none⟩ = some (.slice A475_2 ((rd_T59 l1_0 x5_1).f2).length c475_2) := hS_
         refine norm_ (a' := ?_) ?_ ?_
         rotate_left
         ·
          simp only [putAll, Act.put, List.setIfInBounds_toArray, List.set_cons_zero, List.set_cons_succ]
          rfl
         refine o1 12 none rfl rfl (fun K hK => ?_)
         have hs60 : w59.cell? ⟨gb476, 0, none⟩ = some (.int .i64 0) := (blk_cell BK476.out 0).trans rfl
         have hfs60 := blk_frozen BK476.out 0
         have hns60_0 := NB472_476.out
         have hns60_1 := NB473_476.out
         have hns60_3 := NB477_476.out
         have hms60_0 := NB476_472.out
         have hms60_1 := NB476_473.out
         have hms60_3 := NB476_477.out
         have hs61 : w59.cell? ⟨gb476, 1, none⟩ = some (.string (⟨#[]⟩ : ByteArray)) := (blk_cell BK476.out 1).trans rfl
         have hfs61 := blk_frozen BK476.out 1
         have hns61_0 := NB472_476.out
         have hns61_1 := NB473_476.out
         have hns61_3 := NB477_476.out
         have hms61_0 := NB476_472.out
         have hms61_1 := NB476_473.out
         have hms61_3 := NB476_477.out
         have hs62 : w59.cell? ⟨gb476, 2, none⟩ = some (.slice none 0 0) := (blk_cell BK476.out 2).trans rfl
         have hfs62 := blk_frozen BK476.out 2
         have hns62_0 := NB472_476.out
         have hns62_1 := NB473_476.out
         have hns62_3 := NB477_476.out
         have hms62_0 := NB476_472.out
         have hms62_1 := NB476_473.out
         have hms62_3 := NB476_477.out
         refine skip_ (w1 := ?_) (by rfl) rfl ?_ ?_
         rotate_left
         ·
          go_simp
          rfl
         refine hK.out _ _ ⟨(ct NB472_476.out ((ct NB472_476.out ((ct NB472_476.out (hHeld.1)))))), (ct NB473_476.out ((ct NB473_476.out ((ct NB473_476.out (hHeld.2.1)))))), (ct (nb hw474_0 GW476) ((ct (nb hw474_0 GW476) ((ct (nb hw474_0 GW476) (hHeld.2.2.1)))))), (ct (nb hw474_1 GW476) ((ct (nb hw474_1 GW476) ((ct (nb hw474_1 GW476) (hHeld.2.2.2.1)))))), (ct (nb hw474_2 GW476) ((ct (nb hw474_2 GW476) ((ct (nb hw474_2 GW476) (hHeld.2.2.2.2.1)))))), (ct (nb hw475_0 GW476) ((ct (nb hw475_0 GW476) ((ct (nb hw475_0 GW476) (hHeld.2.2.2.2.2.1)))))), (ct (nb hw475_1 GW476) ((ct (nb hw475_1 GW476) ((ct (nb hw475_1 GW476) (hHeld.2.2.2.2.2.2.1)))))), (ct (nb hw475_2 GW476) ((ct (nb hw475_2 GW476) ((ct (nb hw475_2 GW476) (hHeld.2.2.2.2.2.2.2))))))⟩ (fun hHeld => ?_)
         clear hK K
         refine o1 13 none rfl rfl (fun K hK => ?_)
         have hs63 : w59.cell? ⟨gb477, 0, none⟩ = some (.int .i64 0) := (blk_cell BK477.out 0).trans rfl
         have hfs63 := blk_frozen BK477.out 0
         have hns63_0 := NB472_477.out
         have hns63_1 := NB473_477.out
         have hns63_2 := NB476_477.out
         have hms63_0 := NB477_472.out
         have hms63_1 := NB477_473.out
         have hms63_2 := NB477_476.out
         have hs64 : w59.cell? ⟨gb477, 1, none⟩ = some (.string (⟨#[]⟩ : ByteArray)) := (blk_cell BK477.out 1).trans rfl
         have hfs64 := blk_frozen BK477.out 1
         have hns64_0 := NB472_477.out
         have hns64_1 := NB473_477.out
         have hns64_2 := NB476_477.out
         have hms64_0 := NB477_472.out
         have hms64_1 := NB477_473.out
         have hms64_2 := NB477_476.out
         have hs65 : w59.cell? ⟨gb477, 2, none⟩ = some (.slice none 0 0) := (blk_cell BK477.out 2).trans rfl
         have hfs65 := blk_frozen BK477.out 2
         have hns65_0 := NB472_477.out
         have hns65_1 := NB473_477.out
         have hns65_2 := NB476_477.out
         have hms65_0 := NB477_472.out
         have hms65_1 := NB477_473.out
         have hms65_2 := NB477_476.out
         refine skip_ (w1 := ?_) (by rfl) rfl ?_ ?_
         rotate_left
         ·
          go_simp
          rfl
         refine hK.out _ _ ⟨(ct NB472_477.out ((ct NB472_477.out ((ct NB472_477.out (hHeld.1)))))), (ct NB473_477.out ((ct NB473_477.out ((ct NB473_477.out (hHeld.2.1)))))), (ct (nb hw474_0 GW477) ((ct (nb hw474_0 GW477) ((ct (nb hw474_0 GW477) (hHeld.2.2.1)))))), (ct (nb hw474_1 GW477) ((ct (nb hw474_1 GW477) ((ct (nb hw474_1 GW477) (hHeld.2.2.2.1)))))), (ct (nb hw474_2 GW477) ((ct (nb hw474_2 GW477) ((ct (nb hw474_2 GW477) (hHeld.2.2.2.2.1)))))), (ct (nb hw475_0 GW477) ((ct (nb hw475_0 GW477) ((ct (nb hw475_0 GW477) (hHeld.2.2.2.2.2.1)))))), (ct (nb hw475_1 GW477) ((ct (nb hw475_1 GW477) ((ct (nb hw475_1 GW477) (hHeld.2.2.2.2.2.2.1)))))), (ct (nb hw475_2 GW477) ((ct (nb hw475_2 GW477) ((ct (nb hw475_2 GW477) (hHeld.2.2.2.2.2.2.2))))))⟩ (fun hHeld => ?_)
         clear hK K
         refine done_ (done_of HT_.out (by kernel_rfl)) ?_
         have hnb66 := NB476_472.out
         have hnc66 := NB472_476.out
         have hnb67 := NB476_473.out
         have hnc67 := NB473_476.out
         have hnb68 := NB476_477.out
         have hnc68 := NB477_476.out
         obtain ⟨hcz69_0, hcz69_1, hcz69_2, hfz69_0, hfz69_1, hfz69_2⟩ := z3 BK476
         have hnb70 := NB477_472.out
         have hnc70 := NB472_477.out
         have hnb71 := NB477_473.out
         have hnc71 := NB473_477.out
         obtain ⟨hcz72_0, hcz72_1, hcz72_2, hfz72_0, hfz72_1, hfz72_2⟩ := z3 BK477
         try go_wp2
         go_ret
         exact ⟨re_, bl⟩
       ·
        rw [if_neg c12] at H
        have c12b0 : (((rd_T59 l0_0 x5_1).f0) == ((rd_T59 l1_0 x5_1).f0)) = false := beq_eq_false_iff_ne.mpr c12
        have c12b1 : (((rd_T59 l0_0 x5_1).f0) != ((rd_T59 l1_0 x5_1).f0)) = true := bne_iff_ne.mpr c12
        obtain rfl := Option.some.inj H
        have hnb73 := NB472_473.out
        have hnc73 := NB473_472.out
        obtain ⟨hcz74_0, hfz74_0⟩ := z1 BK472
        try go_wp2
        replace BK472 := Aside0.mk (blk_drew BK472.out)
        replace BK473 := Aside0.mk (blk_drew BK473.out)
        replace HB := Aside0.mk (below_drew1 HB.out)
        have p474 : 0 ≤ (x5_1 : Int) := od
        have q474 : x5_1 < (l0_0.length : Int) := od
        obtain ⟨ad474, A474_2, c474_2, e474, hx474_0, hx474_1, hx474_2, hl474_2, hi474_2⟩ := at_T59 HR0_0.out x5_1 p474 q474
        have hw474_2 := hx474_2
        have hw474_1 := hx474_1
        have hw474_0 := hx474_0
        cases e474
        replace hx474_0 := kc HB hx474_0
        replace hx474_1 := kc HB hx474_1
        replace hx474_2 := kc HB hx474_2
        have HR474_2 := Aside0.mk hi474_2
        have HC474_2 := Aside0.mk hl474_2
        clear hi474_2 hl474_2
        replace p474 := eq_true p474
        replace q474 := eq_true q474
        have p475 : 0 ≤ (x5_1 : Int) := od
        have q475 : x5_1 < (l1_0.length : Int) := od
        obtain ⟨ad475, A475_2, c475_2, e475, hx475_0, hx475_1, hx475_2, hl475_2, hi475_2⟩ := at_T59 HR1_0.out x5_1 p475 q475
        have hw475_2 := hx475_2
        have hw475_1 := hx475_1
        have hw475_0 := hx475_0
        cases e475
        replace hx475_0 := kc HB hx475_0
        replace hx475_1 := kc HB hx475_1
        replace hx475_2 := kc HB hx475_2
        have HR475_2 := Aside0.mk hi475_2
        have HC475_2 := Aside0.mk hl475_2
        clear hi475_2 hl475_2
        replace p475 := eq_true p475
        replace q475 := eq_true q475
        refine start_ (n := 14) (S := fun w' => w'.cell? ⟨gb472, 0, none⟩ = some (.slice (some ad474) l0_0.length c0_0) ∧ w'.cell? ⟨gb473, 0, none⟩ = some (.slice (some ad475) l1_0.length c1_0) ∧ w'.cell? (ad474.add ((x5_1).toNat * 3)) = some (.int .i64 ((rd_T59 l0_0 x5_1).f0)) ∧ w'.cell? ⟨(ad474.add ((x5_1).toNat * 3)).block, (ad474.add ((x5_1).toNat * 3)).off + 1, none⟩ = some (.string ((rd_T59 l0_0 x5_1).f1)) ∧ w'.cell? ⟨(ad474.add ((x5_1).toNat * 3)).block, (ad474.add ((x5_1).toNat * 3)).off + 2, none⟩ = some (.slice A474_2 ((rd_T59 l0_0 x5_1).f2).length c474_2) ∧ w'.cell? (ad475.add ((x5_1).toNat * 3)) = some (.int .i64 ((rd_T59 l1_0 x5_1).f0)) ∧ w'.cell? ⟨(ad475.add ((x5_1).toNat * 3)).block, (ad475.add ((x5_1).toNat * 3)).off + 1, none⟩ = some (.string ((rd_T59 l1_0 x5_1).f1)) ∧ w'.cell? ⟨(ad475.add ((x5_1).toNat * 3)).block, (ad475.add ((x5_1).toNat * 3)).off + 2, none⟩ = some (.slice A475_2 ((rd_T59 l1_0 x5_1).f2).length c475_2)) (ds := []) _ (by kernel_rfl) rfl rfl ⟨(blk_cell BK472.out 0).trans rfl, (blk_cell BK473.out 0).trans rfl, (kc HB hw474_0), (kc HB hw474_1), (kc HB hw474_2), (kc HB hw475_0), (kc HB hw475_1), (kc HB hw475_2)⟩ (fun hHeld => ?_); refine with_tabW r11_Same.tab6 r11_Same.bits6 (fun HT_ HW_ => ?_)
        generalize wr.drew = w75 at BK472 BK473 HB HR474_2 HR475_2 hx474_0 hx474_1 hx474_2 hx475_0 hx475_1 hx475_2 hHeld ⊢
        refine p1 0 (some 22) ?_
        refine p1 2 (some 24) ?_
        refine p1 5 (some 27) ?_
        refine p1 7 (some 29) ?_
        refine t1 1 (some 23) rfl rfl hHeld (Or.inl ⟨by rfl, by rintro w' ⟨s0, s1, s2, s3, s4, s5, s6, s7⟩; go_simp; with_reducible rfl⟩) ?_
        refine p1 3 (some 25) ?_
        refine t1 4 (some 26) rfl rfl hHeld (Or.inl ⟨by rfl, by rintro w' ⟨s0, s1, s2, s3, s4, s5, s6, s7⟩; go_simp; with_reducible rfl⟩) ?_
        refine t1 6 (some 28) rfl rfl hHeld (Or.inl ⟨by rfl, by rintro w' ⟨s0, s1, s2, s3, s4, s5, s6, s7⟩; go_simp; with_reducible rfl⟩) ?_
        refine p1 8 (some 30) ?_
        refine t1 9 (some 31) rfl rfl hHeld (Or.inl ⟨by rfl, by rintro w' ⟨s0, s1, s2, s3, s4, s5, s6, s7⟩; go_simp; with_reducible rfl⟩) ?_
        refine join_ (σ := Nat × Nat) 2 #[true, true, true, true, true, true, true, true, true, true, true, true, false, false] (fun s_ => [(6, .pointer (some ⟨s_.1, 0, none⟩)), (7, .pointer (some ⟨s_.2, 0, none⟩))]) (fun s_ w' => (w'.cell? ⟨gb472, 0, none⟩ = some (.slice (some ad474) l0_0.length c0_0) ∧ w'.cell? ⟨gb473, 0, none⟩ = some (.slice (some ad475) l1_0.length c1_0) ∧ w'.cell? (ad474.add ((x5_1).toNat * 3)) = some (.int .i64 ((rd_T59 l0_0 x5_1).f0)) ∧ w'.cell? ⟨(ad474.add ((x5_1).toNat * 3)).block, (ad474.add ((x5_1).toNat * 3)).off + 1, none⟩ = some (.string ((rd_T59 l0_0 x5_1).f1)) ∧ w'.cell? ⟨(ad474.add ((x5_1).toNat * 3)).block, (ad474.add ((x5_1).toNat * 3)).off + 2, none⟩ = some (.slice A474_2 ((rd_T59 l0_0 x5_1).f2).length c474_2) ∧ w'.cell? (ad475.add ((x5_1).toNat * 3)) = some (.int .i64 ((rd_T59 l1_0 x5_1).f0)) ∧ w'.cell? ⟨(ad475.add ((x5_1).toNat * 3)).block, (ad475.add ((x5_1).toNat * 3)).off + 1, none⟩ = some (.string ((rd_T59 l1_0 x5_1).f1)) ∧ w'.cell? ⟨(ad475.add ((x5_1).toNat * 3)).block, (ad475.add ((x5_1).toNat * 3)).off + 2, none⟩ = some (.slice A475_2 ((rd_T59 l1_0 x5_1).f2).length c475_2)) ∧ (w'.heap[gb472]? = some (.cells #[.slice (some ad474) l0_0.length c0_0] 24 (0, 0))) ∧ (w'.heap[gb473]? = some (.cells #[.slice (some ad475) l1_0.length c1_0] 24 (0, 0))) ∧ (w'.heap[s_.1]? = some (.cells #[.int .i64 0, .string (⟨#[]⟩ : ByteArray), .slice none 0 0] 59 (0, 0))) ∧ (w'.heap[s_.2]? = some (.cells #[.int .i64 0, .string (⟨#[]⟩ : ByteArray), .slice none 0 0] 59 (0, 0))) ∧ (w.heap.size ≤ s_.1) ∧ (w.heap.size ≤ s_.1) ∧ (gb472 ≠ s_.1) ∧ (s_.1 ≠ gb472) ∧ (gb473 ≠ s_.1) ∧ (s_.1 ≠ gb473) ∧ (s_.2 ≠ s_.1) ∧ (s_.1 ≠ s_.2) ∧ (w.heap.size ≤ s_.2) ∧ (w.heap.size ≤ s_.2) ∧ (gb472 ≠ s_.2) ∧ (s_.2 ≠ gb472) ∧ (gb473 ≠ s_.2) ∧ (s_.2 ≠ gb473) ∧ (Below w.heap.size w w')) ?_ ?_
        rotate_left
        ·
         intro hCont
         refine two_ (i := 10) (j := 11) (Ni := some 6) (Nj := some 7) #[true, true, true, true, true, true, true, true, true, true, true, false, false, false] #[true, true, true, true, true, true, true, true, true, true, false, true, false, false] rfl rfl rfl rfl (two_of HT_.out (by kernel_rfl)) (by decide) (by decide) (fun K hK => ?_) (fun K hK => ?_)
         ·
          skip
          refine box_step ?hg (N := 6) ?hd (cs := #[.int .i64 0, .string (⟨#[]⟩ : ByteArray), .slice none 0 0]) (t := 59) ?hr ?_; (case hd => rfl); (case hg => rfl); (case hr => first | (go_simp; done) | (go_simp; rfl))
          intro gb476 hg w76 hbox hb
          have BK476 := Aside0.mk (hbox)
          have GW476 := gw hg bl
          have GE476 := gw hg bl
          replace HB := Aside0.mk (below_step bl hb)
          have NB472_476 := Aside0.mk ((by rw [hg]; exact Nat.ne_of_lt (blk_lt (g := gb472) (o := .cells #[.slice (some ad474) l0_0.length c0_0] 24 (0, 0)) (uB BK472.out)) : gb472 ≠ gb476))
          have NB476_472 := Aside0.mk ((by rw [hg]; exact Nat.ne_of_gt (blk_lt (g := gb472) (o := .cells #[.slice (some ad474) l0_0.length c0_0] 24 (0, 0)) (uB BK472.out)) : gb476 ≠ gb472))
          replace BK472 := cB BK472 hb
          have NB473_476 := Aside0.mk ((by rw [hg]; exact Nat.ne_of_lt (blk_lt (g := gb473) (o := .cells #[.slice (some ad475) l1_0.length c1_0] 24 (0, 0)) (uB BK473.out)) : gb473 ≠ gb476))
          have NB476_473 := Aside0.mk ((by rw [hg]; exact Nat.ne_of_gt (blk_lt (g := gb473) (o := .cells #[.slice (some ad475) l1_0.length c1_0] 24 (0, 0)) (uB BK473.out)) : gb476 ≠ gb473))
          replace BK473 := cB BK473 hb
          clear hb hbox hg
          refine hK.out _ _ ⟨(blk_cell BK472.out 0).trans rfl, (blk_cell BK473.out 0).trans rfl, (kc HB hw474_0), (kc HB hw474_1), (kc HB hw474_2), (kc HB hw475_0), (kc HB hw475_1), (kc HB hw475_2)⟩ (fun hHeld => ?_)
          clear hK K
          refine norm_ (a' := ?_) ?_ ?_
          rotate_left
          ·
           show Act.put _ (some 6) _ = _
           simp only [Act.put, List.setIfInBounds_toArray, List.set_cons_zero, List.set_cons_succ, i64_w, i32_w]
           rfl
          refine o1 11 (some 7) rfl rfl (fun K hK => ?_)
          refine box_step ?hg (N := 7) ?hd (cs := #[.int .i64 0, .string (⟨#[]⟩ : ByteArray), .slice none 0 0]) (t := 59) ?hr ?_; (case hd => rfl); (case hg => rfl); (case hr => first | (go_simp; done) | (go_simp; rfl))
          intro gb477 hg w77 hbox hb
          have BK477 := Aside0.mk (hbox)
          have GW477 := gw hg bl
          have GE477 := gw hg bl
          replace HB := Aside0.mk (below_step bl hb)
          have NB472_477 := Aside0.mk ((by rw [hg]; exact Nat.ne_of_lt (blk_lt (g := gb472) (o := .cells #[.slice (some ad474) l0_0.length c0_0] 24 (0, 0)) (uB BK472.out)) : gb472 ≠ gb477))
          have NB477_472 := Aside0.mk ((by rw [hg]; exact Nat.ne_of_gt (blk_lt (g := gb472) (o := .cells #[.slice (some ad474) l0_0.length c0_0] 24 (0, 0)) (uB BK472.out)) : gb477 ≠ gb472))
          replace BK472 := cB BK472 hb
          have NB473_477 := Aside0.mk ((by rw [hg]; exact Nat.ne_of_lt (blk_lt (g := gb473) (o := .cells #[.slice (some ad475) l1_0.length c1_0] 24 (0, 0)) (uB BK473.out)) : gb473 ≠ gb477))
          have NB477_473 := Aside0.mk ((by rw [hg]; exact Nat.ne_of_gt (blk_lt (g := gb473) (o := .cells #[.slice (some ad475) l1_0.length c1_0] 24 (0, 0)) (uB BK473.out)) : gb477 ≠ gb473))
          replace BK473 := cB BK473 hb
          have NB476_477 := Aside0.mk ((by rw [hg]; exact Nat.ne_of_lt (blk_lt (g := gb476) (o := .cells #[.int .i64 0, .string (⟨#[]⟩ : ByteArray), .slice none 0 0] 59 (0, 0)) (uB BK476.out)) : gb476 ≠ gb477))
          have NB477_476 := Aside0.mk ((by rw [hg]; exact Nat.ne_of_gt (blk_lt (g := gb476) (o := .cells #[.int .i64 0, .string (⟨#[]⟩ : ByteArray), .slice none 0 0] 59 (0, 0)) (uB BK476.out)) : gb477 ≠ gb476))
          replace BK476 := cB BK476 hb
          clear hb hbox hg
          refine hK.out _ _ ⟨(blk_cell BK472.out 0).trans rfl, (blk_cell BK473.out 0).trans rfl, (kc HB hw474_0), (kc HB hw474_1), (kc HB hw474_2), (kc HB hw475_0), (kc HB hw475_1), (kc HB hw475_2)⟩ (fun hHeld => ?_)
          clear hK K
          refine norm_ (a' := ?_) ?_ ?_
          rotate_left
          ·
           show Act.put _ (some 7) _ = _
           simp only [Act.put, List.setIfInBounds_toArray, List.set_cons_zero, List.set_cons_succ, i64_w, i32_w]
           rfl
          exact norm_ (by simp only [putAll, Act.put, List.setIfInBounds_toArray, List.set_cons_zero, List.set_cons_succ]) (hCont (gb476, gb477) _ ⟨hHeld, (uB BK472.out), (uB BK473.out), (uB BK476.out), (uB BK477.out), GW476.out, GE476.out, NB472_476.out, NB476_472.out, NB473_476.out, NB476_473.out, NB477_476.out, NB476_477.out, GW477.out, GE477.out, NB472_477.out, NB477_472.out, NB473_477.out, NB477_473.out, bl⟩)
         ·
          skip
          refine box_step ?hg (N := 7) ?hd (cs := #[.int .i64 0, .string (⟨#[]⟩ : ByteArray), .slice none 0 0]) (t := 59) ?hr ?_; (case hd => rfl); (case hg => rfl); (case hr => first | (go_simp; done) | (go_simp; rfl))
          intro gb477 hg w76 hbox hb
          have BK477 := Aside0.mk (hbox)
          have GW477 := gw hg bl
          have GE477 := gw hg bl
          replace HB := Aside0.mk (below_step bl hb)
          have NB472_477 := Aside0.mk ((by rw [hg]; exact Nat.ne_of_lt (blk_lt (g := gb472) (o := .cells #[.slice (some ad474) l0_0.length c0_0] 24 (0, 0)) (uB BK472.out)) : gb472 ≠ gb477))
          have NB477_472 := Aside0.mk ((by rw [hg]; exact Nat.ne_of_gt (blk_lt (g := gb472) (o := .cells #[.slice (some ad474) l0_0.length c0_0] 24 (0, 0)) (uB BK472.out)) : gb477 ≠ gb472))
          replace BK472 := cB BK472 hb
          have NB473_477 := Aside0.mk ((by rw [hg]; exact Nat.ne_of_lt (blk_lt (g := gb473) (o := .cells #[.slice (some ad475) l1_0.length c1_0] 24 (0, 0)) (uB BK473.out)) : gb473 ≠ gb477))
          have NB477_473 := Aside0.mk ((by rw [hg]; exact Nat.ne_of_gt (blk_lt (g := gb473) (o := .cells #[.slice (some ad475) l1_0.length c1_0] 24 (0, 0)) (uB BK473.out)) : gb477 ≠ gb473))
          replace BK473 := cB BK473 hb
          clear hb hbox hg
          refine hK.out _ _ ⟨(blk_cell BK472.out 0).trans rfl, (blk_cell BK473.out 0).trans rfl, (kc HB hw474_0), (kc HB hw474_1), (kc HB hw474_2), (kc HB hw475_0), (kc HB hw475_1), (kc HB hw475_2)⟩ (fun hHeld => ?_)
          clear hK K
          refine norm_ (a' := ?_) ?_ ?_
          rotate_left
          ·
           show Act.put _ (some 7) _ = _
           simp only [Act.put, List.setIfInBounds_toArray, List.set_cons_zero, List.set_cons_succ, i64_w, i32_w]
           rfl
          refine o1 10 (some 6) rfl rfl (fun K hK => ?_)
          refine box_step ?hg (N := 6) ?hd (cs := #[.int .i64 0, .string (⟨#[]⟩ : ByteArray), .slice none 0 0]) (t := 59) ?hr ?_; (case hd => rfl); (case hg => rfl); (case hr => first | (go_simp; done) | (go_simp; rfl))
          intro gb476 hg w77 hbox hb
          have BK476 := Aside0.mk (hbox)
          have GW476 := gw hg bl
          have GE476 := gw hg bl
          replace HB := Aside0.mk (below_step bl hb)
          have NB472_476 := Aside0.mk ((by rw [hg]; exact Nat.ne_of_lt (blk_lt (g := gb472) (o := .cells #[.slice (some ad474) l0_0.length c0_0] 24 (0, 0)) (uB BK472.out)) : gb472 ≠ gb476))
          have NB476_472 := Aside0.mk ((by rw [hg]; exact Nat.ne_of_gt (blk_lt (g := gb472) (o := .cells #[.slice (some ad474) l0_0.length c0_0] 24 (0, 0)) (uB BK472.out)) : gb476 ≠ gb472))
          replace BK472 := cB BK472 hb
          have NB473_476 := Aside0.mk ((by rw [hg]; exact Nat.ne_of_lt (blk_lt (g := gb473) (o := .cells #[.slice (some ad475) l1_0.length c1_0] 24 (0, 0)) (uB BK473.out)) : gb473 ≠ gb476))
          have NB476_473 := Aside0.mk ((by rw [hg]; exact Nat.ne_of_gt (blk_lt (g := gb473) (o := .cells #[.slice (some ad475) l1_0.length c1_0] 24 (0, 0)) (uB BK473.out)) : gb476 ≠ gb473))
          replace BK473 := cB BK473 hb
          have NB477_476 := Aside0.mk ((by rw [hg]; exact Nat.ne_of_lt (blk_lt (g := gb477) (o := .cells #[.int .i64 0, .string (⟨#[]⟩ : ByteArray), .slice none 0 0] 59 (0, 0)) (uB BK477.out)) : gb477 ≠ gb476))
          have NB476_477 := Aside0.mk ((by rw [hg]; exact Nat.ne_of_gt (blk_lt (g := gb477) (o := .cells #[.int .i64 0, .string (⟨#[]⟩ : ByteArray), .slice none 0 0] 59 (0, 0)) (uB BK477.out)) : gb476 ≠ gb477))
          replace BK477 := cB BK477 hb
          clear hb hbox hg
          refine hK.out _ _ ⟨(blk_cell BK472.out 0).trans rfl, (blk_cell BK473.out 0).trans rfl, (kc HB hw474_0), (kc HB hw474_1), (kc HB hw474_2), (kc HB hw475_0), (kc HB hw475_1), (kc HB hw475_2)⟩ (fun hHeld => ?_)
          clear hK K
          refine norm_ (a' := ?_) ?_ ?_
          rotate_left
          ·
           show Act.put _ (some 6) _ = _
           simp only [Act.put, List.setIfInBounds_toArray, List.set_cons_zero, List.set_cons_succ, i64_w, i32_w]
           rfl
          exact norm_ (by simp only [putAll, Act.put, List.setIfInBounds_toArray, List.set_cons_zero, List.set_cons_succ]) (hCont (gb476, gb477) _ ⟨hHeld, (uB BK472.out), (uB BK473.out), (uB BK476.out), (uB BK477.out), GW476.out, GE476.out, NB472_476.out, NB476_472.out, NB473_476.out, NB476_473.out, NB477_476.out, NB476_477.out, GW477.out, GE477.out, NB472_477.out, NB477_472.out, NB473_477.out, NB477_473.out, bl⟩)
        rintro ⟨gb476, gb477⟩ w78 ⟨hS_, h0_, h1_, h2_, h3_, h4_, h5_, h6_, h7_, h8_, h9_, h10_, h11_, h12_, h13_, h14_, h15_, h16_, h17_, h18_⟩
        have n0_ : Aside0 (w78.heap[gb472]? = some (.cells #[.slice (some ad474) l0_0.length c0_0] 24 (0, 0))) := ⟨h0_⟩
        have n1_ : Aside0 (w78.heap[gb473]? = some (.cells #[.slice (some ad475) l1_0.length c1_0] 24 (0, 0))) := ⟨h1_⟩
        have n2_ : Aside0 (w78.heap[gb476]? = some (.cells #[.int .i64 0, .string (⟨#[]⟩ : ByteArray), .slice none 0 0] 59 (0, 0))) := ⟨h2_⟩
        have n3_ : Aside0 (w78.heap[gb477]? = some (.cells #[.int .i64 0, .string (⟨#[]⟩ : ByteArray), .slice none 0 0] 59 (0, 0))) := ⟨h3_⟩
        have n4_ : Aside0 (w.heap.size ≤ gb476) := ⟨h4_⟩
        have n5_ : Aside0 (w.heap.size ≤ gb476) := ⟨h5_⟩
        have n6_ : Aside0 (gb472 ≠ gb476) := ⟨h6_⟩
        have n7_ : Aside0 (gb476 ≠ gb472) := ⟨h7_⟩
        have n8_ : Aside0 (gb473 ≠ gb476) := ⟨h8_⟩
        have n9_ : Aside0 (gb476 ≠ gb473) := ⟨h9_⟩
        have n10_ : Aside0 (gb477 ≠ gb476) := ⟨h10_⟩
        have n11_ : Aside0 (gb476 ≠ gb477) := ⟨h11_⟩
        have n12_ : Aside0 (w.heap.size ≤ gb477) := ⟨h12_⟩
        have n13_ : Aside0 (w.heap.size ≤ gb477) := ⟨h13_⟩
        have n14_ : Aside0 (gb472 ≠ gb477) := ⟨h14_⟩
        have n15_ : Aside0 (gb477 ≠ gb472) := ⟨h15_⟩
        have n16_ : Aside0 (gb473 ≠ gb477) := ⟨h16_⟩
        have n17_ : Aside0 (gb477 ≠ gb473) := ⟨h17_⟩
        have n18_ : Aside0 (Below w.heap.size w w78) := ⟨h18_⟩
        clear BK472
        clear BK473
        clear HB
        clear h0_ h1_ h2_ h3_ h4_ h5_ h6_ h7_ h8_ h9_ h10_ h11_ h12_ h13_ h14_ h15_ h16_ h17_ h18_
        have BK472 := n0_
        have BK473 := n1_
        have BK476 := n2_
        have BK477 := n3_
        have GW476 := n4_
        have GE476 := n5_
        have NB472_476 := n6_
        have NB476_472 := n7_
        have NB473_476 := n8_
        have NB476_473 := n9_
        have NB477_476 := n10_
        have NB476_477 := n11_
        have GW477 := n12_
        have GE477 := n13_
        have NB472_477 := n14_
        have NB477_472 := n15_
        have NB473_477 := n16_
        have NB477_473 := n17_
        have HB := n18_
        clear n0_ n1_ n2_ n3_ n4_ n5_ n6_ n7_ n8_ n9_ n10_ n11_ n12_ n13_ n14_ n15_ n16_ n17_ n18_
        have hHeld : w78.cell? ⟨gb472, 0, none⟩ = some (.slice (some ad474) l0_0.length c0_0) ∧ w78.cell? ⟨gb473, 0, none⟩ = some (.slice (some ad475) l1_0.length c1_0) ∧ w78.cell? (ad474.add ((x5_1).toNat * 3)) = some (.int .i64 ((rd_T59 l0_0 x5_1).f0)) ∧ w78.cell? ⟨(ad474.add ((x5_1).toNat * 3)).block, (ad474.add ((x5_1).toNat * 3)).off + 1, none⟩ = some (.string ((rd_T59 l0_0 x5_1).f1)) ∧ w78.cell? ⟨(ad474.add ((x5_1).toNat * 3)).block, (ad474.add ((x5_1).toNat * 3)).off + 2, none⟩ = some (.slice A474_2 ((rd_T59 l0_0 x5_1).f2).length c474_2) ∧ w78.cell? (ad475.add ((x5_1).toNat * 3)) = some (.int .i64 ((rd_T59 l1_0 x5_1).f0)) ∧ w78.cell? ⟨(ad475.add ((x5_1).toNat * 3)).block, (ad475.add ((x5_1).toNat * 3)).off + 1, none⟩ = some (.string ((rd_T59 l1_0 x5_1).f1)) ∧ w78.cell? ⟨(ad475.add ((x5_1).toNat * 3)).block, (ad475.add ((x5_1).toNat * 3)).off + 2, none⟩ = some (.slice A475_2 ((rd_T59 l1_0 x5_1).f2).length c475_2) := hS_
        refine norm_ (a' := ?_) ?_ ?_
        rotate_left
        ·
         simp only [putAll, Act.put, List.setIfInBounds_toArray, List.set_cons_zero, List.set_cons_succ]
         rfl
        refine o1 12 none rfl rfl (fun K hK => ?_)
        have hs79 : w78.cell? ⟨gb476, 0, none⟩ = some (.int .i64 0) := (blk_cell BK476.out 0).trans rfl
        have hfs79 := blk_frozen BK476.out 0
        have hns79_0 := NB472_476.out
        have hns79_1 := NB473_476.out
        have hns79_3 := NB477_476.out
        have hms79_0 := NB476_472.out
        have hms79_1 := NB476_473.out
        have hms79_3 := NB476_477.out
        have hs80 : w78.cell? ⟨gb476, 1, none⟩ = some (.string (⟨#[]⟩ : ByteArray)) := (blk_cell BK476.out 1).trans rfl
        have hfs80 := blk_frozen BK476.out 1
        have hns80_0 := NB472_476.out
        have hns80_1 := NB473_476.out
        have hns80_3 := NB477_476.out
        have hms80_0 := NB476_472.out
        have hms80_1 := NB476_473.out
        have hms80_3 := NB476_477.out
        have hs81 : w78.cell? ⟨gb476, 2, none⟩ = some (.slice none 0 0) := (blk_cell BK476.out 2).trans rfl
        have hfs81 := blk_frozen BK476.out 2
        have hns81_0 := NB472_476.out
        have hns81_1 := NB473_476.out
        have hns81_3 := NB477_476.out
        have hms81_0 := NB476_472.out
        have hms81_1 := NB476_473.out
        have hms81_3 := NB476_477.out
        refine skip_ (w1 := ?_) (by rfl) rfl ?_ ?_
        rotate_left
        ·
         go_simp
         rfl
        refine hK.out _ _ ⟨(ct NB472_476.out ((ct NB472_476.out ((ct NB472_476.out (hHeld.1)))))), (ct NB473_476.out ((ct NB473_476.out ((ct NB473_476.out (hHeld.2.1)))))), (ct (nb hw474_0 GW476) ((ct (nb hw474_0 GW476) ((ct (nb hw474_0 GW476) (hHeld.2.2.1)))))), (ct (nb hw474_1 GW476) ((ct (nb hw474_1 GW476) ((ct (nb hw474_1 GW476) (hHeld.2.2.2.1)))))), (ct (nb hw474_2 GW476) ((ct (nb hw474_2 GW476) ((ct (nb hw474_2 GW476) (hHeld.2.2.2.2.1)))))), (ct (nb hw475_0 GW476) ((ct (nb hw475_0 GW476) ((ct (nb hw475_0 GW476) (hHeld.2.2.2.2.2.1)))))), (ct (nb hw475_1 GW476) ((ct (nb hw475_1 GW476) ((ct (nb hw475_1 GW476) (hHeld.2.2.2.2.2.2.1)))))), (ct (nb hw475_2 GW476) ((ct (nb hw475_2 GW476) ((ct (nb hw475_2 GW476) (hHeld.2.2.2.2.2.2.2))))))⟩ (fun hHeld => ?_)
        clear hK K
        refine o1 13 none rfl rfl (fun K hK => ?_)
        have hs82 : w78.cell? ⟨gb477, 0, none⟩ = some (.int .i64 0) := (blk_cell BK477.out 0).trans rfl
        have hfs82 := blk_frozen BK477.out 0
        have hns82_0 := NB472_477.out
        have hns82_1 := NB473_477.out
        have hns82_2 := NB476_477.out
        have hms82_0 := NB477_472.out
        have hms82_1 := NB477_473.out
        have hms82_2 := NB477_476.out
        have hs83 : w78.cell? ⟨gb477, 1, none⟩ = some (.string (⟨#[]⟩ : ByteArray)) := (blk_cell BK477.out 1).trans rfl
        have hfs83 := blk_frozen BK477.out 1
        have hns83_0 := NB472_477.out
        have hns83_1 := NB473_477.out
        have hns83_2 := NB476_477.out
        have hms83_0 := NB477_472.out
        have hms83_1 := NB477_473.out
        have hms83_2 := NB477_476.out
        have hs84 : w78.cell? ⟨gb477, 2, none⟩ = some (.slice none 0 0) := (blk_cell BK477.out 2).trans rfl
        have hfs84 := blk_frozen BK477.out 2
        have hns84_0 := NB472_477.out
        have hns84_1 := NB473_477.out
        have hns84_2 := NB476_477.out
        have hms84_0 := NB477_472.out
        have hms84_1 := NB477_473.out
        have hms84_2 := NB477_476.out
        refine skip_ (w1 := ?_) (by rfl) rfl ?_ ?_
        rotate_left
        ·
         go_simp
         rfl
        refine hK.out _ _ ⟨(ct NB472_477.out ((ct NB472_477.out ((ct NB472_477.out (hHeld.1)))))), (ct NB473_477.out ((ct NB473_477.out ((ct NB473_477.out (hHeld.2.1)))))), (ct (nb hw474_0 GW477) ((ct (nb hw474_0 GW477) ((ct (nb hw474_0 GW477) (hHeld.2.2.1)))))), (ct (nb hw474_1 GW477) ((ct (nb hw474_1 GW477) ((ct (nb hw474_1 GW477) (hHeld.2.2.2.1)))))), (ct (nb hw474_2 GW477) ((ct (nb hw474_2 GW477) ((ct (nb hw474_2 GW477) (hHeld.2.2.2.2.1)))))), (ct (nb hw475_0 GW477) ((ct (nb hw475_0 GW477) ((ct (nb hw475_0 GW477) (hHeld.2.2.2.2.2.1)))))), (ct (nb hw475_1 GW477) ((ct (nb hw475_1 GW477) ((ct (nb hw475_1 GW477) (hHeld.2.2.2.2.2.2.1)))))), (ct (nb hw475_2 GW477) ((ct (nb hw475_2 GW477) ((ct (nb hw475_2 GW477) (hHeld.2.2.2.2.2.2.2))))))⟩ (fun hHeld => ?_)
        clear hK K
        refine done_ (done_of HT_.out (by kernel_rfl)) ?_
        have hnb85 := NB476_472.out
        have hnc85 := NB472_476.out
        have hnb86 := NB476_473.out
        have hnc86 := NB473_476.out
        have hnb87 := NB476_477.out
        have hnc87 := NB477_476.out
        obtain ⟨hcz88_0, hcz88_1, hcz88_2, hfz88_0, hfz88_1, hfz88_2⟩ := z3 BK476
        have hnb89 := NB477_472.out
        have hnc89 := NB472_477.out
        have hnb90 := NB477_473.out
        have hnc90 := NB473_477.out
        obtain ⟨hcz91_0, hcz91_1, hcz91_2, hfz91_0, hfz91_1, hfz91_2⟩ := z3 BK477
        try go_wp2
        go_ret
        exact ⟨re_, bl⟩
      ·
       rw [if_neg c11] at H
       exact absurd H (by simp)
     ·
      rw [if_neg c10] at H
      exact absurd H (by simp)
    ·
     rw [if_neg c9] at H
     have c9b0 : decide (x5_1 < (l0_0.length : Int)) = false := decide_eq_false c9
     clear c9
     obtain rfl := Option.some.inj H
     have hnb92 := NB472_473.out
     have hnc92 := NB473_472.out
     obtain ⟨hcz93_0, hfz93_0⟩ := z1 BK472
     go_wp2
     go_ret
     exact ⟨re_, bl⟩
 ·
  rw [if_neg c3] at H
  have c3b0 : ((l0_0.length : Int) == (l1_0.length : Int)) = false := beq_eq_false_iff_ne.mpr c3
  have c3b1 : ((l0_0.length : Int) != (l1_0.length : Int)) = true := bne_iff_ne.mpr c3
  have c3b2 : (l0_0.length == l1_0.length) = false := by first | simpa using c3 | (simp at c3 ⊢; omega)
  obtain rfl := Option.some.inj H
  go_enter Try.func13, Try.ntmps13
  go_wp2_with (first | ((with_reducible refine gate_dst (N := 2) rfl ?_); refine bx (N := 2) #[.slice A0_0 l0_0.length c0_0] 24 ?_; intro gb472 hg w94 hbox hb; have BK472 := Aside0.mk (hbox); have GW472 := gw hg (uW HB.out); have GE472 := GW472; replace HB := cW HB hb; clear hb hbox hg) | ((with_reducible refine gate_dst (N := 3) rfl ?_); refine bx (N := 3) #[.slice A1_0 l1_0.length c1_0] 24 ?_; intro gb473 hg w95 hbox hb; have BK473 := Aside0.mk (hbox); have GW473 := gw hg bl; have GE473 := GW473; replace HB := Aside0.mk (below_step bl hb); have NB472_473 := Aside0.mk ((by rw [hg]; exact Nat.ne_of_lt (blk_lt (g := gb472) (o := .cells #[.slice A0_0 l0_0.length c0_0] 24 (0, 0)) (uB BK472.out)) : gb472 ≠ gb473)); have NB473_472 := Aside0.mk ((by rw [hg]; exact Nat.ne_of_gt (blk_lt (g := gb472) (o := .cells #[.slice A0_0 l0_0.length c0_0] 24 (0, 0)) (uB BK472.out)) : gb473 ≠ gb472)); replace BK472 := cB BK472 hb; clear hb hbox hg; have hnb96 := NB472_473.out; have hnc96 := NB473_472.out; obtain ⟨hcz97_0, hfz97_0⟩ := z1 BK472; obtain ⟨hcz98_0, hfz98_0⟩ := z1 BK473))
  go_ret
  exact ⟨re_, bl⟩
end Go.Proofs.Ytofaindjbhmopaa.X
