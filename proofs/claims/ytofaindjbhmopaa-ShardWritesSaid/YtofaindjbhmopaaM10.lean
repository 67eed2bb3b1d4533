/- Printed by a program of this session's own: what functions of the program compute, and that the machine computes it. No condition of its own. -/
import Derived.Test.YtofaindjbhmopaaM3
import Derived.Test.YtofaindjbhmopaaM9
namespace Go.Proofs.Ytofaindjbhmopaa.X
open Go.RowKit Go.Proofs.YtofaindjbhmopaaW.PrintWords Go.Proofs.YtofaindjbhmopaaW.PrintLast Go.Proofs.YtofaindjbhmopaaW.PrintMore
attribute [local go_sem] max2_int min2_int max_two min_two max_three min_three max_four min_four
set_option linter.unusedVariables false
set_option linter.unusedSimpArgs false
set_option maxHeartbeats 8000000
set_option maxRecDepth 100000
attribute [local go_sem high] eqA54
def r08_Items.l0 : Nat → List (S54) → List (S54) → Int → Option (Bool)
 | 0, _, _, _ => none
 | k + 1, x0, x1, x5 => if x5 < (x0.length : Int) then (if 0 ≤ x5 then (if x5 < (x1.length : Int) then (if (!(((rd_T54 x0 x5).f0) == ((rd_T54 x1 x5).f0)) || (!((((rd_T54 x0 x5).f1).toList) == (((rd_T54 x1 x5).f1).toList)) || ((!(((rd_T54 x0 x5).f2.f0) == ((rd_T54 x1 x5).f2.f0)) || ((!(((rd_T54 x0 x5).f2.f1.f0) == ((rd_T54 x1 x5).f2.f1.f0)) || (!(((rd_T54 x0 x5).f2.f1.f1) == ((rd_T54 x1 x5).f2.f1.f1)))) || (!(((rd_T54 x0 x5).f2.f2) == ((rd_T54 x1 x5).f2.f2)) || (!(((rd_T54 x0 x5).f2.f3) == ((rd_T54 x1 x5).f2.f3))))))))) = true then (some false) else (r08_Items.l0 k x0 x1 (wrap64 (x5 + 1)))) else (none)) else (none)) else (some true)
def r08_Items.f (k : Nat) (l0 : List (S54)) (l1 : List (S54)) : Option (Bool) := if (l0.length : Int) = (l1.length : Int) then (r08_Items.l0 k l0 l1 0) else (some false)
theorem r08_Items.mono_l : ∀ k, (∀ y0 y1 y2, LeC (r08_Items.l0 k y0 y1 y2) (r08_Items.l0 (k + 1) y0 y1 y2))
 | 0 => fun _ _ _ => ⟨fun r h => by simp [r08_Items.l0] at h⟩
 | k + 1 => by have ih0 := r08_Items.mono_l k; exact fun _ _ _ => by unfold r08_Items.l0; exact lm
theorem r08_Items.mono : ∀ a0 a1 k, LeO (r08_Items.f k a0 a1) (r08_Items.f (k + 1) a0 a1) := by
 intro a0 a1 k
 have ih0 := r08_Items.mono_l k
 unfold r08_Items.f
 exact lo
instance r08_Items.mI {a0 a1 k} : LeC (r08_Items.f k a0 a1) (r08_Items.f (k + 1) a0 a1) := ⟨r08_Items.mono _ _ _⟩
theorem r08_Items.calls (k : Nat) (A0 : Option Addr) (c0 : Nat) (l0 : List (S54)) (A1 : Option Addr) (c1 : Nat) (l1 : List (S54)) (r : Bool) (w : World) (hr0 : Kd.C k54 w A0 l0.length l0) (hc0 : l0.length ≤ c0) (hr1 : Kd.C k54 w A1 l1.length l1) (hc1 : l1.length ≤ c1) (h : r08_Items.f k l0 l1 = some r) :
 Calls Try.prog 17 #[.slice A0 l0.length c0, .slice A1 l1.length c1] w fun e w' => e = .returned (.bool r) ∧ Drawn0 w w' := by
 have hu54 := Try.underlying54
 have HR0 := Aside0.mk hr0
 have HC0 := Aside0.mk hc0
 clear hr0 hc0
 have HR1 := Aside0.mk hr1
 have HC1 := Aside0.mk hc1
 clear hr1 hc1
 have H : (if (l0.length : Int) = (l1.length : Int) then (r08_Items.l0 k l0 l1 0) else (some false)) = some r := h
 clear h
 by_cases c3 : (l0.length : Int) = (l1.length : Int)
 ·
  rw [if_pos c3] at H
  have c3b0 : ((l0.length : Int) == (l1.length : Int)) = true := beq_iff_eq.mpr c3
  have c3b1 : ((l0.length : Int) != (l1.length : Int)) = false := bne_eq_false_iff_eq.mpr c3
  have c3b2 : (l0.length == l1.length) = true := by first | simpa using c3 | (simp at c3 ⊢; omega)
  clear c3
  have H' := Aside0.mk H
  clear H
  go_enter Try.func17, Try.ntmps17
  go_wp2
  repeat (go_quiet (fail); try go_wp2)
  go_loopg [5] k (fun kq v5 w' => ∃ (x5_1 : Int), v5 = .int .i64 x5_1 ∧ Aside0 (r08_Items.l0 kq l0 l1 x5_1 = some r) ∧ Aside0 (kq ≤ k) ∧ Drawn0 w w')
  case atStart => exact ⟨(0), rs_, H', ⟨Nat.le_refl _⟩, dr_⟩
  case round =>
   clear H'
   try clear c1
   try clear p2
   try clear c3
   try clear c3b0
   try clear c3b1
   try clear c3b2
   obtain ⟨x5_1, rfl, HA, HK1, ⟨m1, rfl⟩⟩ := hrel
   cases gk with
   | zero => exact absurd HA.out (by simp [r08_Items.l0])
   | succ k1 =>
    have H := HA.out
    clear HA
    simp only [r08_Items.l0] at H
    by_cases c4 : x5_1 < (l0.length : Int)
    ·
     rw [if_pos c4] at H
     have c4b0 : decide (x5_1 < (l0.length : Int)) = true := decide_eq_true c4
     clear c4
     obtain ⟨c5b0, H⟩ := gdd H
     obtain ⟨c6b0, H⟩ := gdd H
     by_cases c7 : (!(((rd_T54 l0 x5_1).f0) == ((rd_T54 l1 x5_1).f0)) || (!((((rd_T54 l0 x5_1).f1).toList) == (((rd_T54 l1 x5_1).f1).toList)) || ((!(((rd_T54 l0 x5_1).f2.f0) == ((rd_T54 l1 x5_1).f2.f0)) || ((!(((rd_T54 l0 x5_1).f2.f1.f0) == ((rd_T54 l1 x5_1).f2.f1.f0)) || (!(((rd_T54 l0 x5_1).f2.f1.f1) == ((rd_T54 l1 x5_1).f2.f1.f1)))) || (!(((rd_T54 l0 x5_1).f2.f2) == ((rd_T54 l1 x5_1).f2.f2)) || (!(((rd_T54 l0 x5_1).f2.f3) == ((rd_T54 l1 x5_1).f2.f3))))))))) = true
     ·
      rw [if_pos c7] at H
      have c7b0 : (!(((rd_T54 l0 x5_1).f0) == ((rd_T54 l1 x5_1).f0)) || (!((((rd_T54 l0 x5_1).f1).toList) == (((rd_T54 l1 x5_1).f1).toList)) || ((!(((rd_T54 l0 x5_1).f2.f0) == ((rd_T54 l1 x5_1).f2.f0)) || ((!(((rd_T54 l0 x5_1).f2.f1.f0) == ((rd_T54 l1 x5_1).f2.f1.f0)) || (!(((rd_T54 l0 x5_1).f2.f1.f1) == ((rd_T54 l1 x5_1).f2.f1.f1)))) || (!(((rd_T54 l0 x5_1).f2.f2) == ((rd_T54 l1 x5_1).f2.f2)) || (!(((rd_T54 l0 x5_1).f2.f3) == ((rd_T54 l1 x5_1).f2.f3))))))))) = true := c7
      clear c7
      obtain rfl := Option.some.inj H
      have p347 : 0 ≤ (x5_1 : Int) := od
      have q347 : x5_1 < (l0.length : Int) := od
      obtain ⟨ad347, e347, hx347_0, hx347_1, hx347_2, hx347_3, hx347_4, hx347_5, hx347_6⟩ := at_T54 HR0.out x5_1 p347 q347
      cases e347
      replace p347 := eq_true p347
      replace q347 := eq_true q347
      have p348 : 0 ≤ (x5_1 : Int) := od
      have q348 : x5_1 < (l1.length : Int) := od
      obtain ⟨ad348, e348, hx348_0, hx348_1, hx348_2, hx348_3, hx348_4, hx348_5, hx348_6⟩ := at_T54 HR1.out x5_1 p348 q348
      cases e348
      replace p348 := eq_true p348
      replace q348 := eq_true q348
      go_wp2
      repeat (go_quiet (fail); try go_wp2)
      go_ret
      exact ⟨rs_, dr_⟩
     ·
      rw [if_neg c7] at H
      have c7b0 : (!(((rd_T54 l0 x5_1).f0) == ((rd_T54 l1 x5_1).f0)) || (!((((rd_T54 l0 x5_1).f1).toList) == (((rd_T54 l1 x5_1).f1).toList)) || ((!(((rd_T54 l0 x5_1).f2.f0) == ((rd_T54 l1 x5_1).f2.f0)) || ((!(((rd_T54 l0 x5_1).f2.f1.f0) == ((rd_T54 l1 x5_1).f2.f1.f0)) || (!(((rd_T54 l0 x5_1).f2.f1.f1) == ((rd_T54 l1 x5_1).f2.f1.f1)))) || (!(((rd_T54 l0 x5_1).f2.f2) == ((rd_T54 l1 x5_1).f2.f2)) || (!(((rd_T54 l0 x5_1).f2.f3) == ((rd_T54 l1 x5_1).f2.f3))))))))) = false := by simpa using c7
      clear c7
      have H' := Aside0.mk H
      clear H
      have p347 : 0 ≤ (x5_1 : Int) := od
      have q347 : x5_1 < (l0.length : Int) := od
      obtain ⟨ad347, e347, hx347_0, hx347_1, hx347_2, hx347_3, hx347_4, hx347_5, hx347_6⟩ := at_T54 HR0.out x5_1 p347 q347
      cases e347
      replace p347 := eq_true p347
      replace q347 := eq_true q347
      have p348 : 0 ≤ (x5_1 : Int) := od
      have q348 : x5_1 < (l1.length : Int) := od
      obtain ⟨ad348, e348, hx348_0, hx348_1, hx348_2, hx348_3, hx348_4, hx348_5, hx348_6⟩ := at_T54 HR1.out x5_1 p348 q348
      cases e348
      replace p348 := eq_true p348
      replace q348 := eq_true q348
      go_wp2
      repeat (go_quiet (fail); try go_wp2)
      go_roundg k1
      case measure => have := HK1.out; omega
      case rel => exact ⟨(wrap64 (x5_1 + 1)), rs_, H', ⟨by have := HK1.out; omega⟩, dr_⟩
    ·
     rw [if_neg c4] at H
     have c4b0 : decide (x5_1 < (l0.length : Int)) = false := decide_eq_false c4
     clear c4
     obtain rfl := Option.some.inj H
     go_wp2
     repeat (go_quiet (fail); try go_wp2)
     go_ret
     exact ⟨rs_, dr_⟩
 ·
  rw [if_neg c3] at H
  have c3b0 : ((l0.length : Int) == (l1.length : Int)) = false := beq_eq_false_iff_ne.mpr c3
  have c3b1 : ((l0.length : Int) != (l1.length : Int)) = true := bne_iff_ne.mpr c3
  have c3b2 : (l0.length == l1.length) = false := by first | simpa using c3 | (simp at c3 ⊢; omega)
  obtain rfl := Option.some.inj H
  go_enter Try.func17, Try.ntmps17
  go_wp2
  repeat (go_quiet (fail); try go_wp2)
  go_ret
  exact ⟨rs_, dr_⟩
def r01_Add.j0 : Nat → Bool → Int → Bool → Int → Bool → Option (Int × Bool)
 | 0, _, _, _, _, _ => none
 | k + 1, x13, x350000, x350001, x351000, x351001 => if x13 = true then (some (9223372036854775807, true)) else (if x350000 < 0 then (if x351000 < (wrap64 ((-9223372036854775808) - x350000)) then (some ((-9223372036854775808), true)) else (some (wrap64 (x350000 + x351000), false))) else (some (wrap64 (x350000 + x351000), false)))
def r01_Add.f (k : Nat) (a0_0 : Int) (a0_1 : Bool) (a1_0 : Int) (a1_1 : Bool) : Option (Int × Bool) := if a0_1 = true then (some (a0_0, a0_1)) else (if a1_1 = true then (some (a1_0, a1_1)) else (if a0_0 > 0 then (r01_Add.j0 k (decide (a1_0 > (wrap64 (9223372036854775807 - a0_0)))) a0_0 a0_1 a1_0 a1_1) else (r01_Add.j0 k false a0_0 a0_1 a1_0 a1_1)))
theorem r01_Add.mono_l : ∀ k, (∀ y0 y1 y2 y3 y4, LeC (r01_Add.j0 k y0 y1 y2 y3 y4) (r01_Add.j0 (k + 1) y0 y1 y2 y3 y4))
 | 0 => fun _ _ _ _ _ => ⟨fun r h => by simp [r01_Add.j0] at h⟩
 | k + 1 => by have ih0 := r01_Add.mono_l k; exact fun _ _ _ _ _ => by unfold r01_Add.j0; exact lm
theorem r01_Add.mono : ∀ a0 a1 a2 a3 k, LeO (r01_Add.f k a0 a1 a2 a3) (r01_Add.f (k + 1) a0 a1 a2 a3) := by
 intro a0 a1 a2 a3 k
 have ih0 := r01_Add.mono_l k
 unfold r01_Add.f
 exact lo
instance r01_Add.mI {a0 a1 a2 a3 k} : LeC (r01_Add.f k a0 a1 a2 a3) (r01_Add.f (k + 1) a0 a1 a2 a3) := ⟨r01_Add.mono _ _ _ _ _⟩
theorem r01_Add.calls (k : Nat) (a0_0 : Int) (a0_1 : Bool) (a1_0 : Int) (a1_1 : Bool) (r1 : Int) (r2 : Bool) (w : World) (h : r01_Add.f k a0_0 a0_1 a1_0 a1_1 = some (r1, r2)) :
 Calls Try.prog 45 #[.agg #[.int .i64 a0_0, .bool a0_1], .agg #[.int .i64 a1_0, .bool a1_1]] w fun e w' => e = .returned (.agg #[.int .i64 r1, .bool r2]) ∧ Below w.heap.size w w' := by
 have hu50 := Try.underlying50
 have HB := Aside0.mk (Below.refl w.heap.size w)
 have H : (if a0_1 = true then (some (a0_0, a0_1)) else (if a1_1 = true then (some (a1_0, a1_1)) else (if a0_0 > 0 then (r01_Add.j0 k (decide (a1_0 > (wrap64 (9223372036854775807 - a0_0)))) a0_0 a0_1 a1_0 a1_1) else (r01_Add.j0 k false a0_0 a0_1 a1_0 a1_1)))) = some (r1, r2) := h
 clear h
 by_cases c3 : a0_1 = true
 ·
  subst c3
  rw [if_pos rfl] at H
  simp only [Option.some.injEq, Prod.mk.injEq] at H
  obtain ⟨rfl, rfl⟩ := H
  go_enter Try.func45, Try.ntmps45
  go_wp2_with (first | ((with_reducible refine gate_dst (N := 2) rfl ?_); refine bx (N := 2) #[.int .i64 a0_0, .bool true] 50 ?_; intro gb349 hg w4 hbox hb; have BK349 := Aside0.mk (hbox); have GW349 := gw hg (uW HB.out); have GE349 := GW349; replace HB := cW HB hb; clear hb hbox hg) | ((with_reducible refine gate_dst (N := 3) rfl ?_); refine bx (N := 3) #[.int .i64 a1_0, .bool a1_1] 50 ?_; intro gb350 hg w5 hbox hb; have BK350 := Aside0.mk (hbox); have GW350 := gw hg bl; have GE350 := GW350; replace HB := Aside0.mk (below_step bl hb); have NB349_350 := Aside0.mk ((by rw [hg]; exact Nat.ne_of_lt (blk_lt (g := gb349) (o := .cells #[.int .i64 a0_0, .bool true] 50 (0, 0)) (uB BK349.out)) : gb349 ≠ gb350)); have NB350_349 := Aside0.mk ((by rw [hg]; exact Nat.ne_of_gt (blk_lt (g := gb349) (o := .cells #[.int .i64 a0_0, .bool true] 50 (0, 0)) (uB BK349.out)) : gb350 ≠ gb349)); replace BK349 := cB BK349 hb; clear hb hbox hg) | ((with_reducible refine gate_dst (N := 4) rfl ?_); refine bx (N := 4) #[.int .i64 0, .bool false] 50 ?_; intro gb351 hg w6 hbox hb; have BK351 := Aside0.mk (hbox); have GW351 := gw hg bl; have GE351 := GW351; replace HB := Aside0.mk (below_step bl hb); have NB349_351 := Aside0.mk ((by rw [hg]; exact Nat.ne_of_lt (blk_lt (g := gb349) (o := .cells #[.int .i64 a0_0, .bool true] 50 (0, 0)) (uB BK349.out)) : gb349 ≠ gb351)); have NB351_349 := Aside0.mk ((by rw [hg]; exact Nat.ne_of_gt (blk_lt (g := gb349) (o := .cells #[.int .i64 a0_0, .bool true] 50 (0, 0)) (uB BK349.out)) : gb351 ≠ gb349)); replace BK349 := cB BK349 hb; have NB350_351 := Aside0.mk ((by rw [hg]; exact Nat.ne_of_lt (blk_lt (g := gb350) (o := .cells #[.int .i64 a1_0, .bool a1_1] 50 (0, 0)) (uB BK350.out)) : gb350 ≠ gb351)); have NB351_350 := Aside0.mk ((by rw [hg]; exact Nat.ne_of_gt (blk_lt (g := gb350) (o := .cells #[.int .i64 a1_0, .bool a1_1] 50 (0, 0)) (uB BK350.out)) : gb351 ≠ gb350)); replace BK350 := cB BK350 hb; clear hb hbox hg; have hnb7 := NB349_350.out; have hnc7 := NB350_349.out; have hnb8 := NB349_351.out; have hnc8 := NB351_349.out; obtain ⟨hcz9_0, hcz9_1, hfz9_0, hfz9_1⟩ := z2 BK349; have hnb10 := NB351_350.out; have hnc10 := NB350_351.out; obtain ⟨hcz11_0, hcz11_1, hfz11_0, hfz11_1⟩ := z2 BK351))
  refine bodyPost_ret (results_cell_row rfl _ _ gb351 50 #[.int .i64 a0_0, .bool true] (0, 0) _ rfl (by (with_reducible repeat (first | refine blk_drewN ?_ _ | refine blk_drew ?_ | refine blk_alloc ?_ _)); refine blk_put (cs := #[.int .i64 a0_0, .bool false]) ?_ 1 _ rfl; (with_reducible repeat (first | refine blk_drewN ?_ _ | refine blk_drew ?_ | refine blk_alloc ?_ _)); refine blk_put (cs := #[.int .i64 0, .bool false]) ?_ 0 _ rfl; exact uB <| BK351.out) Try.underlying50 rfl (by kernel_rfl)) rfl ?_
  exact ⟨re_, bl⟩
 ·
  replace c3 := Bool.eq_false_iff.mpr c3
  subst c3
  rw [if_neg (show ¬ (false = true) by decide)] at H
  by_cases c12 : a1_1 = true
  ·
   subst c12
   rw [if_pos rfl] at H
   simp only [Option.some.injEq, Prod.mk.injEq] at H
   obtain ⟨rfl, rfl⟩ := H
   go_enter Try.func45, Try.ntmps45
   go_wp2_with (first | ((with_reducible refine gate_dst (N := 2) rfl ?_); refine bx (N := 2) #[.int .i64 a0_0, .bool false] 50 ?_; intro gb349 hg w13 hbox hb; have BK349 := Aside0.mk (hbox); have GW349 := gw hg (uW HB.out); have GE349 := GW349; replace HB := cW HB hb; clear hb hbox hg) | ((with_reducible refine gate_dst (N := 3) rfl ?_); refine bx (N := 3) #[.int .i64 a1_0, .bool true] 50 ?_; intro gb350 hg w14 hbox hb; have BK350 := Aside0.mk (hbox); have GW350 := gw hg bl; have GE350 := GW350; replace HB := Aside0.mk (below_step bl hb); have NB349_350 := Aside0.mk ((by rw [hg]; exact Nat.ne_of_lt (blk_lt (g := gb349) (o := .cells #[.int .i64 a0_0, .bool false] 50 (0, 0)) (uB BK349.out)) : gb349 ≠ gb350)); have NB350_349 := Aside0.mk ((by rw [hg]; exact Nat.ne_of_gt (blk_lt (g := gb349) (o := .cells #[.int .i64 a0_0, .bool false] 50 (0, 0)) (uB BK349.out)) : gb350 ≠ gb349)); replace BK349 := cB BK349 hb; clear hb hbox hg) | ((with_reducible refine gate_dst (N := 4) rfl ?_); refine bx (N := 4) #[.int .i64 0, .bool false] 50 ?_; intro gb351 hg w15 hbox hb; have BK351 := Aside0.mk (hbox); have GW351 := gw hg bl; have GE351 := GW351; replace HB := Aside0.mk (below_step bl hb); have NB349_351 := Aside0.mk ((by rw [hg]; exact Nat.ne_of_lt (blk_lt (g := gb349) (o := .cells #[.int .i64 a0_0, .bool false] 50 (0, 0)) (uB BK349.out)) : gb349 ≠ gb351)); have NB351_349 := Aside0.mk ((by rw [hg]; exact Nat.ne_of_gt (blk_lt (g := gb349) (o := .cells #[.int .i64 a0_0, .bool false] 50 (0, 0)) (uB BK349.out)) : gb351 ≠ gb349)); replace BK349 := cB BK349 hb; have NB350_351 := Aside0.mk ((by rw [hg]; exact Nat.ne_of_lt (blk_lt (g := gb350) (o := .cells #[.int .i64 a1_0, .bool true] 50 (0, 0)) (uB BK350.out)) : gb350 ≠ gb351)); have NB351_350 := Aside0.mk ((by rw [hg]; exact Nat.ne_of_gt (blk_lt (g := gb350) (o := .cells #[.int .i64 a1_0, .bool true] 50 (0, 0)) (uB BK350.out)) : gb351 ≠ gb350)); replace BK350 := cB BK350 hb; clear hb hbox hg; have hnb16 := NB349_350.out; have hnc16 := NB350_349.out; have hnb17 := NB349_351.out; have hnc17 := NB351_349.out; obtain ⟨hcz18_0, hcz18_1, hfz18_0, hfz18_1⟩ := z2 BK349; have hnb19 := NB350_351.out; have hnc19 := NB351_350.out; obtain ⟨hcz20_0, hcz20_1, hfz20_0, hfz20_1⟩ := z2 BK350; obtain ⟨hcz21_0, hcz21_1, hfz21_0, hfz21_1⟩ := z2 BK351))
   refine bodyPost_ret (results_cell_row rfl _ _ gb351 50 #[.int .i64 a1_0, .bool true] (0, 0) _ rfl (by (with_reducible repeat (first | refine blk_drewN ?_ _ | refine blk_drew ?_ | refine blk_alloc ?_ _)); refine blk_put (cs := #[.int .i64 a1_0, .bool false]) ?_ 1 _ rfl; (with_reducible repeat (first | refine blk_drewN ?_ _ | refine blk_drew ?_ | refine blk_alloc ?_ _)); refine blk_put (cs := #[.int .i64 0, .bool false]) ?_ 0 _ rfl; exact uB <| BK351.out) Try.underlying50 rfl (by kernel_rfl)) rfl ?_
   exact ⟨re_, bl⟩
  ·
   replace c12 := Bool.eq_false_iff.mpr c12
   subst c12
   rw [if_neg (show ¬ (false = true) by decide)] at H
   have HC22 := Aside0.mk H
   clear H
   go_enter Try.func45, Try.ntmps45
   go_upto_region 5 with (first | ((with_reducible refine gate_dst (N := 2) rfl ?_); refine bx (N := 2) #[.int .i64 a0_0, .bool false] 50 ?_; intro gb349 hg w23 hbox hb; have BK349 := Aside0.mk (hbox); have GW349 := gw hg (uW HB.out); have GE349 := GW349; replace HB := cW HB hb; clear hb hbox hg) | ((with_reducible refine gate_dst (N := 3) rfl ?_); refine bx (N := 3) #[.int .i64 a1_0, .bool false] 50 ?_; intro gb350 hg w24 hbox hb; have BK350 := Aside0.mk (hbox); have GW350 := gw hg bl; have GE350 := GW350; replace HB := Aside0.mk (below_step bl hb); have NB349_350 := Aside0.mk ((by rw [hg]; exact Nat.ne_of_lt (blk_lt (g := gb349) (o := .cells #[.int .i64 a0_0, .bool false] 50 (0, 0)) (uB BK349.out)) : gb349 ≠ gb350)); have NB350_349 := Aside0.mk ((by rw [hg]; exact Nat.ne_of_gt (blk_lt (g := gb349) (o := .cells #[.int .i64 a0_0, .bool false] 50 (0, 0)) (uB BK349.out)) : gb350 ≠ gb349)); replace BK349 := cB BK349 hb; clear hb hbox hg) | ((with_reducible refine gate_dst (N := 4) rfl ?_); refine bx (N := 4) #[.int .i64 0, .bool false] 50 ?_; intro gb351 hg w25 hbox hb; have BK351 := Aside0.mk (hbox); have GW351 := gw hg bl; have GE351 := GW351; replace HB := Aside0.mk (below_step bl hb); have NB349_351 := Aside0.mk ((by rw [hg]; exact Nat.ne_of_lt (blk_lt (g := gb349) (o := .cells #[.int .i64 a0_0, .bool false] 50 (0, 0)) (uB BK349.out)) : gb349 ≠ gb351)); have NB351_349 := Aside0.mk ((by rw [hg]; exact Nat.ne_of_gt (blk_lt (g := gb349) (o := .cells #[.int .i64 a0_0, .bool false] 50 (0, 0)) (uB BK349.out)) : gb351 ≠ gb349)); replace BK349 := cB BK349 hb; have NB350_351 := Aside0.mk ((by rw [hg]; exact Nat.ne_of_lt (blk_lt (g := gb350) (o := .cells #[.int .i64 a1_0, .bool false] 50 (0, 0)) (uB BK350.out)) : gb350 ≠ gb351)); have NB351_350 := Aside0.mk ((by rw [hg]; exact Nat.ne_of_gt (blk_lt (g := gb350) (o := .cells #[.int .i64 a1_0, .bool false] 50 (0, 0)) (uB BK350.out)) : gb351 ≠ gb350)); replace BK350 := cB BK350 hb; clear hb hbox hg; have hnb26 := NB349_350.out; have hnc26 := NB350_349.out; have hnb27 := NB349_351.out; have hnc27 := NB351_349.out; obtain ⟨hcz28_0, hcz28_1, hfz28_0, hfz28_1⟩ := z2 BK349; have hnb29 := NB350_351.out; have hnc29 := NB351_350.out; obtain ⟨hcz30_0, hcz30_1, hfz30_0, hfz30_1⟩ := z2 BK350))
   (try simp only [Act.put, List.setIfInBounds_toArray, List.set_cons_zero, List.set_cons_succ])
   go_cut [13] (fun v13 wc => ∃ (kq : Nat) (x13_21 : Bool), v13 = .bool x13_21 ∧ Aside0 (r01_Add.j0 kq x13_21 a0_0 false a1_0 false = some (r1, r2)) ∧ Aside0 (kq ≤ k) ∧ Aside0 (wc.heap[gb349]? = some (.cells #[.int .i64 a0_0, .bool false] 50 (0, 0))) ∧ Aside0 (wc.heap[gb350]? = some (.cells #[.int .i64 a1_0, .bool false] 50 (0, 0))) ∧ Aside0 (wc.heap[gb351]? = some (.cells #[.int .i64 0, .bool false] 50 (0, 0))) ∧ Aside0 (Below w.heap.size w wc))
   case first =>
    have H := HC22.out
    clear HC22
    by_cases c31 : a0_0 > 0
    ·
     rw [if_pos c31] at H
     have c31b0 : decide (0 < a0_0) = true := decide_eq_true c31
     clear c31
     (first | rw [c31b0] | (simp only [i64_w, i32_w]; rw [c31b0]) | skip)
     have H' := Aside0.mk H
     clear H
     have hnb32 := NB349_350.out
     have hnc32 := NB350_349.out
     have hnb33 := NB349_351.out
     have hnc33 := NB351_349.out
     obtain ⟨hcz34_0, hcz34_1, hfz34_0, hfz34_1⟩ := z2 BK349
     have hnb35 := NB350_351.out
     have hnc35 := NB351_350.out
     obtain ⟨hcz36_0, hcz36_1, hfz36_0, hfz36_1⟩ := z2 BK350
     go_wp2
     go_meet
     case rel => exact ⟨_, (decide (a1_0 > (wrap64 (9223372036854775807 - a0_0)))), rs_, H', ⟨by first | omega | exact Nat.le_refl _⟩, ⟨uB BK349.out⟩, ⟨uB BK350.out⟩, ⟨uB BK351.out⟩, ⟨bl⟩⟩
    ·
     rw [if_neg c31] at H
     have c31b0 : decide (0 < a0_0) = false := decide_eq_false c31
     clear c31
     (first | rw [c31b0] | (simp only [i64_w, i32_w]; rw [c31b0]) | skip)
     have H' := Aside0.mk H
     clear H
     have hnb37 := NB349_350.out
     have hnc37 := NB350_349.out
     have hnb38 := NB349_351.out
     have hnc38 := NB351_349.out
     obtain ⟨hcz39_0, hcz39_1, hfz39_0, hfz39_1⟩ := z2 BK349
     go_wp2
     go_meet
     case rel => exact ⟨_, (false), rs_, H', ⟨by first | omega | exact Nat.le_refl _⟩, ⟨uB BK349.out⟩, ⟨uB BK350.out⟩, ⟨uB BK351.out⟩, ⟨bl⟩⟩
   case rest =>
    clear HC22
    try clear c1
    try clear c2
    try clear p2
    try clear c3
    try clear c4
    try clear p6
    try clear c7
    try clear c8
    try clear c10
    try clear c12
    try clear c16
    try clear c17
    try clear c19
    try clear c26
    try clear c27
    try clear c29
    try clear c31
    try clear c31b0
    try clear c32
    try clear c33
    try clear c35
    try clear c37
    try clear c38
    try clear hcz11_0
    try clear hcz11_1
    try clear hcz18_0
    try clear hcz18_1
    try clear hcz20_0
    try clear hcz20_1
    try clear hcz21_0
    try clear hcz21_1
    try clear hcz28_0
    try clear hcz28_1
    try clear hcz30_0
    try clear hcz30_1
    try clear hcz34_0
    try clear hcz34_1
    try clear hcz36_0
    try clear hcz36_1
    try clear hcz39_0
    try clear hcz39_1
    try clear hcz9_0
    try clear hcz9_1
    try clear hfz11_0
    try clear hfz11_1
    try clear hfz18_0
    try clear hfz18_1
    try clear hfz20_0
    try clear hfz20_1
    try clear hfz21_0
    try clear hfz21_1
    try clear hfz28_0
    try clear hfz28_1
    try clear hfz30_0
    try clear hfz30_1
    try clear hfz34_0
    try clear hfz34_1
    try clear hfz36_0
    try clear hfz36_1
    try clear hfz39_0
    try clear hfz39_1
    try clear hfz9_0
    try clear hfz9_1
    obtain ⟨kq, x13_21, rfl, HA, HJ21, BK349, BK350, BK351, HB⟩ := hcut
    cases kq with
    | zero => exact absurd HA.out (by simp [r01_Add.j0])
    | succ kj21 =>
     have H := HA.out
     clear HA
     simp only [r01_Add.j0] at H
     by_cases c40 : x13_21 = true
     ·
      subst c40
      rw [if_pos rfl] at H
      simp only [Option.some.injEq, Prod.mk.injEq] at H
      obtain ⟨rfl, rfl⟩ := H
      have hnb41 := NB351_349.out
      have hnc41 := NB349_351.out
      have hnb42 := NB351_350.out
      have hnc42 := NB350_351.out
      obtain ⟨hcz43_0, hcz43_1, hfz43_0, hfz43_1⟩ := z2 BK351
      go_wp2
      refine bodyPost_ret (results_cell_row rfl _ _ gb351 50 #[.int .i64 9223372036854775807, .bool true] (0, 0) _ rfl (by (with_reducible repeat (first | refine blk_drewN ?_ _ | refine blk_drew ?_ | refine blk_alloc ?_ _)); refine blk_put (cs := #[.int .i64 9223372036854775807, .bool false]) ?_ 1 _ rfl; (with_reducible repeat (first | refine blk_drewN ?_ _ | refine blk_drew ?_ | refine blk_alloc ?_ _)); refine blk_put (cs := #[.int .i64 0, .bool false]) ?_ 0 _ rfl; exact uB <| BK351.out) Try.underlying50 rfl (by kernel_rfl)) rfl ?_
      exact ⟨re_, bl⟩
     ·
      replace c40 := Bool.eq_false_iff.mpr c40
      subst c40
      rw [if_neg (show ¬ (false = true) by decide)] at H
      by_cases c44 : a0_0 < 0
      ·
       rw [if_pos c44] at H
       have c44b0 : decide (a0_0 < 0) = true := decide_eq_true c44
       clear c44
       by_cases c45 : a1_0 < (wrap64 ((-9223372036854775808) - a0_0))
       ·
        rw [if_pos c45] at H
        have c45b0 : decide (a1_0 < (wrap64 ((-9223372036854775808) - a0_0))) = true := decide_eq_true c45
        clear c45
        simp only [Option.some.injEq, Prod.mk.injEq] at H
        obtain ⟨rfl, rfl⟩ := H
        have hnb46 := NB349_350.out
        have hnc46 := NB350_349.out
        have hnb47 := NB349_351.out
        have hnc47 := NB351_349.out
        obtain ⟨hcz48_0, hcz48_1, hfz48_0, hfz48_1⟩ := z2 BK349
        have hnb49 := NB350_351.out
        have hnc49 := NB351_350.out
        obtain ⟨hcz50_0, hcz50_1, hfz50_0, hfz50_1⟩ := z2 BK350
        obtain ⟨hcz51_0, hcz51_1, hfz51_0, hfz51_1⟩ := z2 BK351
        go_wp2
        refine bodyPost_ret (results_cell_row rfl _ _ gb351 50 #[.int .i64 (-9223372036854775808), .bool true] (0, 0) _ rfl (by (with_reducible repeat (first | refine blk_drewN ?_ _ | refine blk_drew ?_ | refine blk_alloc ?_ _)); refine blk_put (cs := #[.int .i64 (-9223372036854775808), .bool false]) ?_ 1 _ rfl; (with_reducible repeat (first | refine blk_drewN ?_ _ | refine blk_drew ?_ | refine blk_alloc ?_ _)); refine blk_put (cs := #[.int .i64 0, .bool false]) ?_ 0 _ rfl; exact uB <| BK351.out) Try.underlying50 rfl (by kernel_rfl)) rfl ?_
        exact ⟨re_, bl⟩
       ·
        rw [if_neg c45] at H
        have c45b0 : decide (a1_0 < (wrap64 ((-9223372036854775808) - a0_0))) = false := decide_eq_false c45
        clear c45
        simp only [Option.some.injEq, Prod.mk.injEq] at H
        obtain ⟨rfl, rfl⟩ := H
        have hnb52 := NB349_350.out
        have hnc52 := NB350_349.out
        have hnb53 := NB349_351.out
        have hnc53 := NB351_349.out
        obtain ⟨hcz54_0, hcz54_1, hfz54_0, hfz54_1⟩ := z2 BK349
        have hnb55 := NB350_351.out
        have hnc55 := NB351_350.out
        obtain ⟨hcz56_0, hcz56_1, hfz56_0, hfz56_1⟩ := z2 BK350
        obtain ⟨hcz57_0, hcz57_1, hfz57_0, hfz57_1⟩ := z2 BK351
        go_wp2
        refine bodyPost_ret (results_cell_row rfl _ _ gb351 50 #[.int .i64 (wrap64 (a0_0 + a1_0)), .bool false] (0, 0) _ rfl (by (with_reducible repeat (first | refine blk_drewN ?_ _ | refine blk_drew ?_ | refine blk_alloc ?_ _)); refine blk_put (cs := #[.int .i64 (wrap64 (a0_0 + a1_0)), .bool false]) ?_ 1 _ rfl; (with_reducible repeat (first | refine blk_drewN ?_ _ | refine blk_drew ?_ | refine blk_alloc ?_ _)); refine blk_put (cs := #[.int .i64 0, .bool false]) ?_ 0 _ rfl; exact uB <| BK351.out) Try.underlying50 rfl (by kernel_rfl)) rfl ?_
        exact ⟨re_, bl⟩
      ·
       rw [if_neg c44] at H
       have c44b0 : decide (a0_0 < 0) = false := decide_eq_false c44
       clear c44
       simp only [Option.some.injEq, Prod.mk.injEq] at H
       obtain ⟨rfl, rfl⟩ := H
       have hnb58 := NB349_350.out
       have hnc58 := NB350_349.out
       have hnb59 := NB349_351.out
       have hnc59 := NB351_349.out
       obtain ⟨hcz60_0, hcz60_1, hfz60_0, hfz60_1⟩ := z2 BK349
       have hnb61 := NB350_351.out
       have hnc61 := NB351_350.out
       obtain ⟨hcz62_0, hcz62_1, hfz62_0, hfz62_1⟩ := z2 BK350
       obtain ⟨hcz63_0, hcz63_1, hfz63_0, hfz63_1⟩ := z2 BK351
       go_wp2
       refine bodyPost_ret (results_cell_row rfl _ _ gb351 50 #[.int .i64 (wrap64 (a0_0 + a1_0)), .bool false] (0, 0) _ rfl (by (with_reducible repeat (first | refine blk_drewN ?_ _ | refine blk_drew ?_ | refine blk_alloc ?_ _)); refine blk_put (cs := #[.int .i64 (wrap64 (a0_0 + a1_0)), .bool false]) ?_ 1 _ rfl; (with_reducible repeat (first | refine blk_drewN ?_ _ | refine blk_drew ?_ | refine blk_alloc ?_ _)); refine blk_put (cs := #[.int .i64 0, .bool false]) ?_ 0 _ rfl; exact uB <| BK351.out) Try.underlying50 rfl (by kernel_rfl)) rfl ?_
       exact ⟨re_, bl⟩
def r06_Fold.j0 : Nat → Int → Int → Int → Bool → Int → Int → Option (Int × Int × Bool × Int × Int)
 | 0, _, _, _, _, _, _ => none
 | k + 1, x1, x353000, x353001, x353002, x353003, x353004 => (r01_Add.f k x353001 x353002 x1 false).bind fun bt354 => (if x1 < x353003 then (if x1 > x353004 then (some (x353000, bt354.1, bt354.2, x1, x1)) else (some (x353000, bt354.1, bt354.2, x1, x353004))) else (if x1 > x353004 then (some (x353000, bt354.1, bt354.2, x353003, x1)) else (some (x353000, bt354.1, bt354.2, x353003, x353004))))
def r06_Fold.f (k : Nat) (a0_0 : Int) (a0_1 : Int) (a0_2 : Bool) (a0_3 : Int) (a0_4 : Int) (a1 : Int) : Option (Int × Int × Bool × Int × Int) := if a0_0 < 1 then (some (1, a1, false, a1, a1)) else (if a0_0 < 9223372036854775807 then (r06_Fold.j0 k a1 (wrap64 (a0_0 + 1)) a0_1 a0_2 a0_3 a0_4) else (r06_Fold.j0 k a1 a0_0 a0_1 a0_2 a0_3 a0_4))
theorem r06_Fold.mono_l : ∀ k, (∀ y0 y1 y2 y3 y4 y5, LeC (r06_Fold.j0 k y0 y1 y2 y3 y4 y5) (r06_Fold.j0 (k + 1) y0 y1 y2 y3 y4 y5))
 | 0 => fun _ _ _ _ _ _ => ⟨fun r h => by simp [r06_Fold.j0] at h⟩
 | k + 1 => by have ih0 := r06_Fold.mono_l k; exact fun _ _ _ _ _ _ => by unfold r06_Fold.j0; exact lm
theorem r06_Fold.mono : ∀ a0 a1 a2 a3 a4 a5 k, LeO (r06_Fold.f k a0 a1 a2 a3 a4 a5) (r06_Fold.f (k + 1) a0 a1 a2 a3 a4 a5) := by
 intro a0 a1 a2 a3 a4 a5 k
 have ih0 := r06_Fold.mono_l k
 unfold r06_Fold.f
 exact lo
instance r06_Fold.mI {a0 a1 a2 a3 a4 a5 k} : LeC (r06_Fold.f k a0 a1 a2 a3 a4 a5) (r06_Fold.f (k + 1) a0 a1 a2 a3 a4 a5) := ⟨r06_Fold.mono _ _ _ _ _ _ _⟩
theorem r06_Fold.calls (k : Nat) (a0_0 : Int) (a0_1 : Int) (a0_2 : Bool) (a0_3 : Int) (a0_4 : Int) (a1 : Int) (r1 : Int) (r2 : Int) (r3 : Bool) (r4 : Int) (r5 : Int) (w : World) (h : r06_Fold.f k a0_0 a0_1 a0_2 a0_3 a0_4 a1 = some (r1, r2, r3, r4, r5)) :
 Calls Try.prog 24 #[.agg #[.int .i64 a0_0, .int .i64 a0_1, .bool a0_2, .int .i64 a0_3, .int .i64 a0_4], .int .i64 a1] w fun e w' => e = .returned (.agg #[.int .i64 r1, .int .i64 r2, .bool r3, .int .i64 r4, .int .i64 r5]) ∧ Below w.heap.size w w' := by
 have hu52 := Try.underlying52
 have hu50 := Try.underlying50
 have HB := Aside0.mk (Below.refl w.heap.size w)
 have H : (if a0_0 < 1 then (some (1, a1, false, a1, a1)) else (if a0_0 < 9223372036854775807 then (r06_Fold.j0 k a1 (wrap64 (a0_0 + 1)) a0_1 a0_2 a0_3 a0_4) else (r06_Fold.j0 k a1 a0_0 a0_1 a0_2 a0_3 a0_4))) = some (r1, r2, r3, r4, r5) := h
 clear h
 by_cases c3 : a0_0 < 1
 ·
  rw [if_pos c3] at H
  have c3b0 : decide (a0_0 < 1) = true := decide_eq_true c3
  clear c3
  simp only [Option.some.injEq, Prod.mk.injEq] at H
  obtain ⟨rfl, rfl, rfl, rfl, rfl⟩ := H
  go_enter Try.func24, Try.ntmps24
  go_wp2_with (first | ((with_reducible refine gate_dst (N := 2) rfl ?_); refine bx (N := 2) #[.int .i64 a0_0, .int .i64 a0_1, .bool a0_2, .int .i64 a0_3, .int .i64 a0_4] 52 ?_; intro gb352 hg w4 hbox hb; have BK352 := Aside0.mk (hbox); have GW352 := gw hg (uW HB.out); have GE352 := GW352; replace HB := cW HB hb; clear hb hbox hg) | ((with_reducible refine gate_dst (N := 4) rfl ?_); refine bx (N := 4) #[.int .i64 0, .int .i64 0, .bool false, .int .i64 0, .int .i64 0] 52 ?_; intro gb353 hg w5 hbox hb; have BK353 := Aside0.mk (hbox); have GW353 := gw hg bl; have GE353 := GW353; replace HB := Aside0.mk (below_step bl hb); have NB352_353 := Aside0.mk ((by rw [hg]; exact Nat.ne_of_lt (blk_lt (g := gb352) (o := .cells #[.int .i64 a0_0, .int .i64 a0_1, .bool a0_2, .int .i64 a0_3, .int .i64 a0_4] 52 (0, 0)) (uB BK352.out)) : gb352 ≠ gb353)); have NB353_352 := Aside0.mk ((by rw [hg]; exact Nat.ne_of_gt (blk_lt (g := gb352) (o := .cells #[.int .i64 a0_0, .int .i64 a0_1, .bool a0_2, .int .i64 a0_3, .int .i64 a0_4] 52 (0, 0)) (uB BK352.out)) : gb353 ≠ gb352)); replace BK352 := cB BK352 hb; clear hb hbox hg; have hnb6 := NB352_353.out; have hnc6 := NB353_352.out; obtain ⟨hcz7_0, hcz7_1, hcz7_2, hcz7_3, hcz7_4, hfz7_0, hfz7_1, hfz7_2, hfz7_3, hfz7_4⟩ := z5 BK352; obtain ⟨hcz8_0, hcz8_1, hcz8_2, hcz8_3, hcz8_4, hfz8_0, hfz8_1, hfz8_2, hfz8_3, hfz8_4⟩ := z5 BK353) | ((with_reducible refine gate_store (t := 52) (p := 4) rfl ?_); refine store_event (t := 52) (p := 4) (v := ?vo_w9) (w1 := (((((w5.setCell ⟨gb353, 0, none⟩ (.int .i64 1)).setCell ⟨gb353, 1, none⟩ (.int .i64 a1)).setCell ⟨gb353, 2, none⟩ (.bool false)).setCell ⟨gb353, 3, none⟩ (.int .i64 a1)).setCell ⟨gb353, 4, none⟩ (.int .i64 a1))) ?hg ?ho ?hn ?hr ?_; (case ho => rfl); (case hg => rfl); (case hn => rfl); (case hr => first | (go_simp; done) | (go_simp; rfl)); intro w9 hw; have n0_ : Aside0 (w9.heap[gb352]? = some (.cells #[.int .i64 a0_0, .int .i64 a0_1, .bool a0_2, .int .i64 a0_3, .int .i64 a0_4] 52 (0, 0))) := ⟨(by rw [hw]; exact (by (with_reducible repeat (first | refine blk_drewN ?_ _ | refine blk_drew ?_ | refine blk_alloc ?_ _)); refine blk_far ?_ NB352_353.out _; (with_reducible repeat (first | refine blk_drewN ?_ _ | refine blk_drew ?_ | refine blk_alloc ?_ _)); refine blk_far ?_ NB352_353.out _; (with_reducible repeat (first | refine blk_drewN ?_ _ | refine blk_drew ?_ | refine blk_alloc ?_ _)); refine blk_far ?_ NB352_353.out _; (with_reducible repeat (first | refine blk_drewN ?_ _ | refine blk_drew ?_ | refine blk_alloc ?_ _)); refine blk_far ?_ NB352_353.out _; (with_reducible repeat (first | refine blk_drewN ?_ _ | refine blk_drew ?_ | refine blk_alloc ?_ _)); refine blk_far ?_ NB352_353.out _; exact uB <| BK352.out))⟩; have n1_ : Aside0 (w9.heap[gb353]? = some (.cells #[.int .i64 1, .int .i64 a1, .bool false, .int .i64 a1, .int .i64 a1] 52 (0, 0))) := ⟨(by rw [hw]; exact (by (with_reducible repeat (first | refine blk_drewN ?_ _ | refine blk_drew ?_ | refine blk_alloc ?_ _)); refine blk_put (cs := #[.int .i64 1, .int .i64 a1, .bool false, .int .i64 a1, .int .i64 0]) ?_ 4 _ rfl; (with_reducible repeat (first | refine blk_drewN ?_ _ | refine blk_drew ?_ | refine blk_alloc ?_ _)); refine blk_put (cs := #[.int .i64 1, .int .i64 a1, .bool false, .int .i64 0, .int .i64 0]) ?_ 3 _ rfl; (with_reducible repeat (first | refine blk_drewN ?_ _ | refine blk_drew ?_ | refine blk_alloc ?_ _)); refine blk_put (cs := #[.int .i64 1, .int .i64 a1, .bool false, .int .i64 0, .int .i64 0]) ?_ 2 _ rfl; (with_reducible repeat (first | refine blk_drewN ?_ _ | refine blk_drew ?_ | refine blk_alloc ?_ _)); refine blk_put (cs := #[.int .i64 1, .int .i64 0, .bool false, .int .i64 0, .int .i64 0]) ?_ 1 _ rfl; (with_reducible repeat (first | refine blk_drewN ?_ _ | refine blk_drew ?_ | refine blk_alloc ?_ _)); refine blk_put (cs := #[.int .i64 0, .int .i64 0, .bool false, .int .i64 0, .int .i64 0]) ?_ 0 _ rfl; exact uB <| BK353.out))⟩; have n2_ : Aside0 (Below w.heap.size w w9) := ⟨(by rw [hw]; exact bl)⟩; clear hw; clear BK352; clear BK353; clear HB; have BK352 := n0_; have BK353 := n1_; have HB := n2_; clear n0_ n1_ n2_))
  refine bodyPost_ret (results_cell_row rfl _ _ gb353 52 #[.int .i64 1, .int .i64 a1, .bool false, .int .i64 a1, .int .i64 a1] (0, 0) _ rfl (uB BK353.out) Try.underlying52 rfl (by kernel_rfl)) rfl ?_
  exact ⟨re_, bl⟩
 ·
  rw [if_neg c3] at H
  have c3b0 : decide (a0_0 < 1) = false := decide_eq_false c3
  clear c3
  have HC10 := Aside0.mk H
  clear H
  go_enter Try.func24, Try.ntmps24
  go_upto_if 15 with (first | ((with_reducible refine gate_dst (N := 2) rfl ?_); refine bx (N := 2) #[.int .i64 a0_0, .int .i64 a0_1, .bool a0_2, .int .i64 a0_3, .int .i64 a0_4] 52 ?_; intro gb352 hg w11 hbox hb; have BK352 := Aside0.mk (hbox); have GW352 := gw hg (uW HB.out); have GE352 := GW352; replace HB := cW HB hb; clear hb hbox hg) | ((with_reducible refine gate_dst (N := 4) rfl ?_); refine bx (N := 4) #[.int .i64 0, .int .i64 0, .bool false, .int .i64 0, .int .i64 0] 52 ?_; intro gb353 hg w12 hbox hb; have BK353 := Aside0.mk (hbox); have GW353 := gw hg bl; have GE353 := GW353; replace HB := Aside0.mk (below_step bl hb); have NB352_353 := Aside0.mk ((by rw [hg]; exact Nat.ne_of_lt (blk_lt (g := gb352) (o := .cells #[.int .i64 a0_0, .int .i64 a0_1, .bool a0_2, .int .i64 a0_3, .int .i64 a0_4] 52 (0, 0)) (uB BK352.out)) : gb352 ≠ gb353)); have NB353_352 := Aside0.mk ((by rw [hg]; exact Nat.ne_of_gt (blk_lt (g := gb352) (o := .cells #[.int .i64 a0_0, .int .i64 a0_1, .bool a0_2, .int .i64 a0_3, .int .i64 a0_4] 52 (0, 0)) (uB BK352.out)) : gb353 ≠ gb352)); replace BK352 := cB BK352 hb; clear hb hbox hg; have hnb13 := NB352_353.out; have hnc13 := NB353_352.out; obtain ⟨hcz14_0, hcz14_1, hcz14_2, hcz14_3, hcz14_4, hfz14_0, hfz14_1, hfz14_2, hfz14_3, hfz14_4⟩ := z5 BK352))
  (try simp only [Act.put, List.setIfInBounds_toArray, List.set_cons_zero, List.set_cons_succ])
  go_cut [] (fun wc => ∃ (kq : Nat) (x353000_9 : Int), Aside0 (r06_Fold.j0 kq a1 x353000_9 a0_1 a0_2 a0_3 a0_4 = some (r1, r2, r3, r4, r5)) ∧ Aside0 (kq ≤ k) ∧ Aside0 (wc.heap[gb352]? = some (.cells #[.int .i64 x353000_9, .int .i64 a0_1, .bool a0_2, .int .i64 a0_3, .int .i64 a0_4] 52 (0, 0))) ∧ Aside0 (wc.heap[gb353]? = some (.cells #[.int .i64 0, .int .i64 0, .bool false, .int .i64 0, .int .i64 0] 52 (0, 0))) ∧ Aside0 (Below w.heap.size w wc))
  case first =>
   have H := HC10.out
   clear HC10
   by_cases c15 : a0_0 < 9223372036854775807
   ·
    rw [if_pos c15] at H
    have c15b0 : decide (a0_0 < 9223372036854775807) = true := decide_eq_true c15
    clear c15
    (first | rw [c15b0] | (simp only [i64_w, i32_w]; rw [c15b0]) | skip)
    have H' := Aside0.mk H
    clear H
    have hnb16 := NB352_353.out
    have hnc16 := NB353_352.out
    obtain ⟨hcz17_0, hcz17_1, hcz17_2, hcz17_3, hcz17_4, hfz17_0, hfz17_1, hfz17_2, hfz17_3, hfz17_4⟩ := z5 BK352
    go_wp2
    go_meet
    case rel => exact ⟨_, (wrap64 (a0_0 + 1)), H', ⟨by first | omega | exact Nat.le_refl _⟩, ⟨by (with_reducible repeat (first | refine blk_drewN ?_ _ | refine blk_drew ?_ | refine blk_alloc ?_ _)); refine blk_put (cs := #[.int .i64 a0_0, .int .i64 a0_1, .bool a0_2, .int .i64 a0_3, .int .i64 a0_4]) ?_ 0 _ rfl; exact uB <| BK352.out⟩, ⟨by (with_reducible repeat (first | refine blk_drewN ?_ _ | refine blk_drew ?_ | refine blk_alloc ?_ _)); refine blk_far ?_ NB353_352.out _; exact uB <| BK353.out⟩, ⟨bl⟩⟩
   ·
    rw [if_neg c15] at H
    have c15b0 : decide (a0_0 < 9223372036854775807) = false := decide_eq_false c15
    clear c15
    (first | rw [c15b0] | (simp only [i64_w, i32_w]; rw [c15b0]) | skip)
    have H' := Aside0.mk H
    clear H
    go_wp2
    go_meet
    case rel => exact ⟨_, (a0_0), H', ⟨by first | omega | exact Nat.le_refl _⟩, ⟨uB BK352.out⟩, ⟨uB BK353.out⟩, ⟨bl⟩⟩
  case rest =>
   clear HC10
   try clear c1
   try clear c2
   try clear p2
   try clear c3
   try clear c3b0
   try clear c6
   try clear p6
   try clear c13
   try clear c15
   try clear c15b0
   try clear c16
   try clear hcz14_0
   try clear hcz14_1
   try clear hcz14_2
   try clear hcz14_3
   try clear hcz14_4
   try clear hcz17_0
   try clear hcz17_1
   try clear hcz17_2
   try clear hcz17_3
   try clear hcz17_4
   try clear hcz7_0
   try clear hcz7_1
   try clear hcz7_2
   try clear hcz7_3
   try clear hcz7_4
   try clear hcz8_0
   try clear hcz8_1
   try clear hcz8_2
   try clear hcz8_3
   try clear hcz8_4
   try clear hfz14_0
   try clear hfz14_1
   try clear hfz14_2
   try clear hfz14_3
   try clear hfz14_4
   try clear hfz17_0
   try clear hfz17_1
   try clear hfz17_2
   try clear hfz17_3
   try clear hfz17_4
   try clear hfz7_0
   try clear hfz7_1
   try clear hfz7_2
   try clear hfz7_3
   try clear hfz7_4
   try clear hfz8_0
   try clear hfz8_1
   try clear hfz8_2
   try clear hfz8_3
   try clear hfz8_4
   obtain ⟨kq, x353000_9, HA, HJ9, BK352, BK353, HB⟩ := hcut
   cases kq with
   | zero => exact absurd HA.out (by simp [r06_Fold.j0])
   | succ kj9 =>
    have H := HA.out
    clear HA
    simp only [r06_Fold.j0] at H
    obtain ⟨⟨t354, t355⟩, A18, H⟩ := bs H
    try dsimp only at H
    by_cases c19 : a1 < a0_3
    ·
     rw [if_pos c19] at H
     have c19b0 : decide (a1 < a0_3) = true := decide_eq_true c19
     clear c19
     by_cases c20 : a1 > a0_4
     ·
      rw [if_pos c20] at H
      have c20b0 : decide (a0_4 < a1) = true := decide_eq_true c20
      clear c20
      simp only [Option.some.injEq, Prod.mk.injEq] at H
      obtain ⟨rfl, rfl, rfl, rfl, rfl⟩ := H
      have hnb21 := NB352_353.out
      have hnc21 := NB353_352.out
      have hcz22_0 : wc.cell? ⟨gb352, 0, none⟩ = some (.int .i64 x353000_9) := (blk_cell BK352.out 0).trans rfl
      have hcz22_1 : wc.cell? ⟨gb352, 1, none⟩ = some (.int .i64 a0_1) := (blk_cell BK352.out 1).trans rfl
      have hcz22_2 : wc.cell? ⟨gb352, 2, none⟩ = some (.bool a0_2) := (blk_cell BK352.out 2).trans rfl
      have hcz22_3 : wc.cell? ⟨gb352, 3, none⟩ = some (.int .i64 a0_3) := (blk_cell BK352.out 3).trans rfl
      have hcz22_4 : wc.cell? ⟨gb352, 4, none⟩ = some (.int .i64 a0_4) := (blk_cell BK352.out 4).trans rfl
      have hfz22_0 := blk_frozen BK352.out 0
      have hfz22_1 := blk_frozen BK352.out 1
      have hfz22_2 := blk_frozen BK352.out 2
      have hfz22_3 := blk_frozen BK352.out 3
      have hfz22_4 := blk_frozen BK352.out 4
      go_wp2_with (first | (refine gL (some 24) rfl Try.func45 #[.agg #[.int .i64 a0_1, .bool a0_2], .agg #[.int .i64 a1, .bool false]] ?_; (with_reducible refine (r01_Add.calls kj9 a0_1 a0_2 a1 false t354 t355 _ A18.out).mono ?_); rintro e w23 ⟨rfl, hb⟩; refine ⟨_, rfl, ?_⟩; replace BK352 := cB BK352 hb; replace BK353 := cB BK353 hb; replace HB := Aside0.mk (below_step bl hb); (try clear hb); obtain ⟨hcz24_0, hcz24_1, hcz24_2, hcz24_3, hcz24_4, hfz24_0, hfz24_1, hfz24_2, hfz24_3, hfz24_4⟩ := z5 BK352; obtain ⟨hcz25_0, hcz25_1, hcz25_2, hcz25_3, hcz25_4, hfz25_0, hfz25_1, hfz25_2, hfz25_3, hfz25_4⟩ := z5 BK353) | ((with_reducible refine gate_store (t := 52) (p := 4) rfl ?_); refine store_event (t := 52) (p := 4) (v := ?vo_w26) (w1 := (((((((((w23.setCell ⟨gb352, 1, none⟩ (.int .i64 t354)).setCell ⟨gb352, 2, none⟩ (.bool t355)).setCell ⟨gb352, 3, none⟩ (.int .i64 a1)).setCell ⟨gb352, 4, none⟩ (.int .i64 a1)).setCell ⟨gb353, 0, none⟩ (.int .i64 x353000_9)).setCell ⟨gb353, 1, none⟩ (.int .i64 t354)).setCell ⟨gb353, 2, none⟩ (.bool t355)).setCell ⟨gb353, 3, none⟩ (.int .i64 a1)).setCell ⟨gb353, 4, none⟩ (.int .i64 a1))) ?hg ?ho ?hn ?hr ?_; (case ho => rfl); (case hg => rfl); (case hn => rfl); (case hr => first | (go_simp; done) | (go_simp; rfl)); intro w26 hw; have n0_ : Aside0 (w26.heap[gb352]? = some (.cells #[.int .i64 x353000_9, .int .i64 t354, .bool t355, .int .i64 a1, .int .i64 a1] 52 (0, 0))) := ⟨(by rw [hw]; exact (by (with_reducible repeat (first | refine blk_drewN ?_ _ | refine blk_drew ?_ | refine blk_alloc ?_ _)); refine blk_far ?_ NB352_353.out _; (with_reducible repeat (first | refine blk_drewN ?_ _ | refine blk_drew ?_ | refine blk_alloc ?_ _)); refine blk_far ?_ NB352_353.out _; (with_reducible repeat (first | refine blk_drewN ?_ _ | refine blk_drew ?_ | refine blk_alloc ?_ _)); refine blk_far ?_ NB352_353.out _; (with_reducible repeat (first | refine blk_drewN ?_ _ | refine blk_drew ?_ | refine blk_alloc ?_ _)); refine blk_far ?_ NB352_353.out _; (with_reducible repeat (first | refine blk_drewN ?_ _ | refine blk_drew ?_ | refine blk_alloc ?_ _)); refine blk_far ?_ NB352_353.out _; (with_reducible repeat (first | refine blk_drewN ?_ _ | refine blk_drew ?_ | refine blk_alloc ?_ _)); refine blk_put (cs := #[.int .i64 x353000_9, .int .i64 t354, .bool t355, .int .i64 a1, .int .i64 a0_4]) ?_ 4 _ rfl; (with_reducible repeat (first | refine blk_drewN ?_ _ | refine blk_drew ?_ | refine blk_alloc ?_ _)); refine blk_put (cs := #[.int .i64 x353000_9, .int .i64 t354, .bool t355, .int .i64 a0_3, .int .i64 a0_4]) ?_ 3 _ rfl; (with_reducible repeat (first | refine blk_drewN ?_ _ | refine blk_drew ?_ | refine blk_alloc ?_ _)); refine blk_put (cs := #[.int .i64 x353000_9, .int .i64 t354, .bool a0_2, .int .i64 a0_3, .int .i64 a0_4]) ?_ 2 _ rfl; (with_reducible repeat (first | refine blk_drewN ?_ _ | refine blk_drew ?_ | refine blk_alloc ?_ _)); refine blk_put (cs := #[.int .i64 x353000_9, .int .i64 a0_1, .bool a0_2, .int .i64 a0_3, .int .i64 a0_4]) ?_ 1 _ rfl; exact uB <| BK352.out))⟩; have n1_ : Aside0 (w26.heap[gb353]? = some (.cells #[.int .i64 x353000_9, .int .i64 t354, .bool t355, .int .i64 a1, .int .i64 a1] 52 (0, 0))) := ⟨(by rw [hw]; exact (by (with_reducible repeat (first | refine blk_drewN ?_ _ | refine blk_drew ?_ | refine blk_alloc ?_ _)); refine blk_put (cs := #[.int .i64 x353000_9, .int .i64 t354, .bool t355, .int .i64 a1, .int .i64 0]) ?_ 4 _ rfl; (with_reducible repeat (first | refine blk_drewN ?_ _ | refine blk_drew ?_ | refine blk_alloc ?_ _)); refine blk_put (cs := #[.int .i64 x353000_9, .int .i64 t354, .bool t355, .int .i64 0, .int .i64 0]) ?_ 3 _ rfl; (with_reducible repeat (first | refine blk_drewN ?_ _ | refine blk_drew ?_ | refine blk_alloc ?_ _)); refine blk_put (cs := #[.int .i64 x353000_9, .int .i64 t354, .bool false, .int .i64 0, .int .i64 0]) ?_ 2 _ rfl; (with_reducible repeat (first | refine blk_drewN ?_ _ | refine blk_drew ?_ | refine blk_alloc ?_ _)); refine blk_put (cs := #[.int .i64 x353000_9, .int .i64 0, .bool false, .int .i64 0, .int .i64 0]) ?_ 1 _ rfl; (with_reducible repeat (first | refine blk_drewN ?_ _ | refine blk_drew ?_ | refine blk_alloc ?_ _)); refine blk_put (cs := #[.int .i64 0, .int .i64 0, .bool false, .int .i64 0, .int .i64 0]) ?_ 0 _ rfl; (with_reducible repeat (first | refine blk_drewN ?_ _ | refine blk_drew ?_ | refine blk_alloc ?_ _)); refine blk_far ?_ NB353_352.out _; (with_reducible repeat (first | refine blk_drewN ?_ _ | refine blk_drew ?_ | refine blk_alloc ?_ _)); refine blk_far ?_ NB353_352.out _; (with_reducible repeat (first | refine blk_drewN ?_ _ | refine blk_drew ?_ | refine blk_alloc ?_ _)); refine blk_far ?_ NB353_352.out _; (with_reducible repeat (first | refine blk_drewN ?_ _ | refine blk_drew ?_ | refine blk_alloc ?_ _)); refine blk_far ?_ NB353_352.out _; exact uB <| BK353.out))⟩; have n2_ : Aside0 (Below w.heap.size w w26) := ⟨(by rw [hw]; exact bl)⟩; clear hw; clear BK352; clear BK353; clear HB; have BK352 := n0_; have BK353 := n1_; have HB := n2_; clear n0_ n1_ n2_))
      refine bodyPost_ret (results_cell_row rfl _ _ gb353 52 #[.int .i64 x353000_9, .int .i64 t354, .bool t355, .int .i64 a1, .int .i64 a1] (0, 0) _ rfl (uB BK353.out) Try.underlying52 rfl (by kernel_rfl)) rfl ?_
      exact ⟨re_, bl⟩
     ·
      rw [if_neg c20] at H
      have c20b0 : decide (a0_4 < a1) = false := decide_eq_false c20
      clear c20
      simp only [Option.some.injEq, Prod.mk.injEq] at H
      obtain ⟨rfl, rfl, rfl, rfl, rfl⟩ := H
      have hnb27 := NB352_353.out
      have hnc27 := NB353_352.out
      have hcz28_0 : wc.cell? ⟨gb352, 0, none⟩ = some (.int .i64 x353000_9) := (blk_cell BK352.out 0).trans rfl
      have hcz28_1 : wc.cell? ⟨gb352, 1, none⟩ = some (.int .i64 a0_1) := (blk_cell BK352.out 1).trans rfl
      have hcz28_2 : wc.cell? ⟨gb352, 2, none⟩ = some (.bool a0_2) := (blk_cell BK352.out 2).trans rfl
      have hcz28_3 : wc.cell? ⟨gb352, 3, none⟩ = some (.int .i64 a0_3) := (blk_cell BK352.out 3).trans rfl
      have hcz28_4 : wc.cell? ⟨gb352, 4, none⟩ = some (.int .i64 a0_4) := (blk_cell BK352.out 4).trans rfl
      have hfz28_0 := blk_frozen BK352.out 0
      have hfz28_1 := blk_frozen BK352.out 1
      have hfz28_2 := blk_frozen BK352.out 2
      have hfz28_3 := blk_frozen BK352.out 3
      have hfz28_4 := blk_frozen BK352.out 4
      go_wp2_with (first | (refine gL (some 24) rfl Try.func45 #[.agg #[.int .i64 a0_1, .bool a0_2], .agg #[.int .i64 a1, .bool false]] ?_; (with_reducible refine (r01_Add.calls kj9 a0_1 a0_2 a1 false t354 t355 _ A18.out).mono ?_); rintro e w29 ⟨rfl, hb⟩; refine ⟨_, rfl, ?_⟩; replace BK352 := cB BK352 hb; replace BK353 := cB BK353 hb; replace HB := Aside0.mk (below_step bl hb); (try clear hb); obtain ⟨hcz30_0, hcz30_1, hcz30_2, hcz30_3, hcz30_4, hfz30_0, hfz30_1, hfz30_2, hfz30_3, hfz30_4⟩ := z5 BK352; obtain ⟨hcz31_0, hcz31_1, hcz31_2, hcz31_3, hcz31_4, hfz31_0, hfz31_1, hfz31_2, hfz31_3, hfz31_4⟩ := z5 BK353) | ((with_reducible refine gate_store (t := 52) (p := 4) rfl ?_); refine store_event (t := 52) (p := 4) (v := ?vo_w32) (w1 := ((((((((w29.setCell ⟨gb352, 1, none⟩ (.int .i64 t354)).setCell ⟨gb352, 2, none⟩ (.bool t355)).setCell ⟨gb352, 3, none⟩ (.int .i64 a1)).setCell ⟨gb353, 0, none⟩ (.int .i64 x353000_9)).setCell ⟨gb353, 1, none⟩ (.int .i64 t354)).setCell ⟨gb353, 2, none⟩ (.bool t355)).setCell ⟨gb353, 3, none⟩ (.int .i64 a1)).setCell ⟨gb353, 4, none⟩ (.int .i64 a0_4))) ?hg ?ho ?hn ?hr ?_; (case ho => rfl); (case hg => rfl); (case hn => rfl); (case hr => first | (go_simp; done) | (go_simp; rfl)); intro w32 hw; have n0_ : Aside0 (w32.heap[gb352]? = some (.cells #[.int .i64 x353000_9, .int .i64 t354, .bool t355, .int .i64 a1, .int .i64 a0_4] 52 (0, 0))) := ⟨(by rw [hw]; exact (by (with_reducible repeat (first | refine blk_drewN ?_ _ | refine blk_drew ?_ | refine blk_alloc ?_ _)); refine blk_far ?_ NB352_353.out _; (with_reducible repeat (first | refine blk_drewN ?_ _ | refine blk_drew ?_ | refine blk_alloc ?_ _)); refine blk_far ?_ NB352_353.out _; (with_reducible repeat (first | refine blk_drewN ?_ _ | refine blk_drew ?_ | refine blk_alloc ?_ _)); refine blk_far ?_ NB352_353.out _; (with_reducible repeat (first | refine blk_drewN ?_ _ | refine blk_drew ?_ | refine blk_alloc ?_ _)); refine blk_far ?_ NB352_353.out _; (with_reducible repeat (first | refine blk_drewN ?_ _ | refine blk_drew ?_ | refine blk_alloc ?_ _)); refine blk_far ?_ NB352_353.out _; (with_reducible repeat (first | refine blk_drewN ?_ _ | refine blk_drew ?_ | refine blk_alloc ?_ _)); refine blk_put (cs := #[.int .i64 x353000_9, .int .i64 t354, .bool t355, .int .i64 a0_3, .int .i64 a0_4]) ?_ 3 _ rfl; (with_reducible repeat (first | refine blk_drewN ?_ _ | refine blk_drew ?_ | refine blk_alloc ?_ _)); refine blk_put (cs := #[.int .i64 x353000_9, .int .i64 t354, .bool a0_2, .int .i64 a0_3, .int .i64 a0_4]) ?_ 2 _ rfl; (with_reducible repeat (first | refine blk_drewN ?_ _ | refine blk_drew ?_ | refine blk_alloc ?_ _)); refine blk_put (cs := #[.int .i64 x353000_9, .int .i64 a0_1, .bool a0_2, .int .i64 a0_3, .int .i64 a0_4]) ?_ 1 _ rfl; exact uB <| BK352.out))⟩; have n1_ : Aside0 (w32.heap[gb353]? = some (.cells #[.int .i64 x353000_9, .int .i64 t354, .bool t355, .int .i64 a1, .int .i64 a0_4] 52 (0, 0))) := ⟨(by rw [hw]; exact (by (with_reducible repeat (first | refine blk_drewN ?_ _ | refine blk_drew ?_ | refine blk_alloc ?_ _)); refine blk_put (cs := #[.int .i64 x353000_9, .int .i64 t354, .bool t355, .int .i64 a1, .int .i64 0]) ?_ 4 _ rfl; (with_reducible repeat (first | refine blk_drewN ?_ _ | refine blk_drew ?_ | refine blk_alloc ?_ _)); refine blk_put (cs := #[.int .i64 x353000_9, .int .i64 t354, .bool t355, .int .i64 0, .int .i64 0]) ?_ 3 _ rfl; (with_reducible repeat (first | refine blk_drewN ?_ _ | refine blk_drew ?_ | refine blk_alloc ?_ _)); refine blk_put (cs := #[.int .i64 x353000_9, .int .i64 t354, .bool false, .int .i64 0, .int .i64 0]) ?_ 2 _ rfl; (with_reducible repeat (first | refine blk_drewN ?_ _ | refine blk_drew ?_ | refine blk_alloc ?_ _)); refine blk_put (cs := #[.int .i64 x353000_9, .int .i64 0, .bool false, .int .i64 0, .int .i64 0]) ?_ 1 _ rfl; (with_reducible repeat (first | refine blk_drewN ?_ _ | refine blk_drew ?_ | refine blk_alloc ?_ _)); refine blk_put (cs := #[.int .i64 0, .int .i64 0, .bool false, .int .i64 0, .int .i64 0]) ?_ 0 _ rfl; (with_reducible repeat (first | refine blk_drewN ?_ _ | refine blk_drew ?_ | refine blk_alloc ?_ _)); refine blk_far ?_ NB353_352.out _; (with_reducible repeat (first | refine blk_drewN ?_ _ | refine blk_drew ?_ | refine blk_alloc ?_ _)); refine blk_far ?_ NB353_352.out _; (with_reducible repeat (first | refine blk_drewN ?_ _ | refine blk_drew ?_ | refine blk_alloc ?_ _)); refine blk_far ?_ NB353_352.out _; exact uB <| BK353.out))⟩; have n2_ : Aside0 (Below w.heap.size w w32) := ⟨(by rw [hw]; exact bl)⟩; clear hw; clear BK352; clear BK353; clear HB; have BK352 := n0_; have BK353 := n1_; have HB := n2_; clear n0_ n1_ n2_))
      refine bodyPost_ret (results_cell_row rfl _ _ gb353 52 #[.int .i64 x353000_9, .int .i64 t354, .bool t355, .int .i64 a1, .int .i64 a0_4] (0, 0) _ rfl (uB BK353.out) Try.underlying52 rfl (by kernel_rfl)) rfl ?_
      exact ⟨re_, bl⟩
    ·
     rw [if_neg c19] at H
     have c19b0 : decide (a1 < a0_3) = false := decide_eq_false c19
     clear c19
     by_cases c33 : a1 > a0_4
     ·
      rw [if_pos c33] at H
      have c33b0 : decide (a0_4 < a1) = true := decide_eq_true c33
      clear c33
      simp only [Option.some.injEq, Prod.mk.injEq] at H
      obtain ⟨rfl, rfl, rfl, rfl, rfl⟩ := H
      have hnb34 := NB352_353.out
      have hnc34 := NB353_352.out
      have hcz35_0 : wc.cell? ⟨gb352, 0, none⟩ = some (.int .i64 x353000_9) := (blk_cell BK352.out 0).trans rfl
      have hcz35_1 : wc.cell? ⟨gb352, 1, none⟩ = some (.int .i64 a0_1) := (blk_cell BK352.out 1).trans rfl
      have hcz35_2 : wc.cell? ⟨gb352, 2, none⟩ = some (.bool a0_2) := (blk_cell BK352.out 2).trans rfl
      have hcz35_3 : wc.cell? ⟨gb352, 3, none⟩ = some (.int .i64 a0_3) := (blk_cell BK352.out 3).trans rfl
      have hcz35_4 : wc.cell? ⟨gb352, 4, none⟩ = some (.int .i64 a0_4) := (blk_cell BK352.out 4).trans rfl
      have hfz35_0 := blk_frozen BK352.out 0
      have hfz35_1 := blk_frozen BK352.out 1
      have hfz35_2 := blk_frozen BK352.out 2
      have hfz35_3 := blk_frozen BK352.out 3
      have hfz35_4 := blk_frozen BK352.out 4
      go_wp2_with (first | (refine gL (some 24) rfl Try.func45 #[.agg #[.int .i64 a0_1, .bool a0_2], .agg #[.int .i64 a1, .bool false]] ?_; (with_reducible refine (r01_Add.calls kj9 a0_1 a0_2 a1 false t354 t355 _ A18.out).mono ?_); rintro e w36 ⟨rfl, hb⟩; refine ⟨_, rfl, ?_⟩; replace BK352 := cB BK352 hb; replace BK353 := cB BK353 hb; replace HB := Aside0.mk (below_step bl hb); (try clear hb); obtain ⟨hcz37_0, hcz37_1, hcz37_2, hcz37_3, hcz37_4, hfz37_0, hfz37_1, hfz37_2, hfz37_3, hfz37_4⟩ := z5 BK352; obtain ⟨hcz38_0, hcz38_1, hcz38_2, hcz38_3, hcz38_4, hfz38_0, hfz38_1, hfz38_2, hfz38_3, hfz38_4⟩ := z5 BK353) | ((with_reducible refine gate_store (t := 52) (p := 4) rfl ?_); refine store_event (t := 52) (p := 4) (v := ?vo_w39) (w1 := ((((((((w36.setCell ⟨gb352, 1, none⟩ (.int .i64 t354)).setCell ⟨gb352, 2, none⟩ (.bool t355)).setCell ⟨gb352, 4, none⟩ (.int .i64 a1)).setCell ⟨gb353, 0, none⟩ (.int .i64 x353000_9)).setCell ⟨gb353, 1, none⟩ (.int .i64 t354)).setCell ⟨gb353, 2, none⟩ (.bool t355)).setCell ⟨gb353, 3, none⟩ (.int .i64 a0_3)).setCell ⟨gb353, 4, none⟩ (.int .i64 a1))) ?hg ?ho ?hn ?hr ?_; (case ho => rfl); (case hg => rfl); (case hn => rfl); (case hr => first | (go_simp; done) | (go_simp; rfl)); intro w39 hw; have n0_ : Aside0 (w39.heap[gb352]? = some (.cells #[.int .i64 x353000_9, .int .i64 t354, .bool t355, .int .i64 a0_3, .int .i64 a1] 52 (0, 0))) := ⟨(by rw [hw]; exact (by (with_reducible repeat (first | refine blk_drewN ?_ _ | refine blk_drew ?_ | refine blk_alloc ?_ _)); refine blk_far ?_ NB352_353.out _; (with_reducible repeat (first | refine blk_drewN ?_ _ | refine blk_drew ?_ | refine blk_alloc ?_ _)); refine blk_far ?_ NB352_353.out _; (with_reducible repeat (first | refine blk_drewN ?_ _ | refine blk_drew ?_ | refine blk_alloc ?_ _)); refine blk_far ?_ NB352_353.out _; (with_reducible repeat (first | refine blk_drewN ?_ _ | refine blk_drew ?_ | refine blk_alloc ?_ _)); refine blk_far ?_ NB352_353.out _; (with_reducible repeat (first | refine blk_drewN ?_ _ | refine blk_drew ?_ | refine blk_alloc ?_ _)); refine blk_far ?_ NB352_353.out _; (with_reducible repeat (first | refine blk_drewN ?_ _ | refine blk_drew ?_ | refine blk_alloc ?_ _)); refine blk_put (cs := #[.int .i64 x353000_9, .int .i64 t354, .bool t355, .int .i64 a0_3, .int .i64 a0_4]) ?_ 4 _ rfl; (with_reducible repeat (first | refine blk_drewN ?_ _ | refine blk_drew ?_ | refine blk_alloc ?_ _)); refine blk_put (cs := #[.int .i64 x353000_9, .int .i64 t354, .bool a0_2, .int .i64 a0_3, .int .i64 a0_4]) ?_ 2 _ rfl; (with_reducible repeat (first | refine blk_drewN ?_ _ | refine blk_drew ?_ | refine blk_alloc ?_ _)); refine blk_put (cs := #[.int .i64 x353000_9, .int .i64 a0_1, .bool a0_2, .int .i64 a0_3, .int .i64 a0_4]) ?_ 1 _ rfl; exact uB <| BK352.out))⟩; have n1_ : Aside0 (w39.heap[gb353]? = some (.cells #[.int .i64 x353000_9, .int .i64 t354, .bool t355, .int .i64 a0_3, .int .i64 a1] 52 (0, 0))) := ⟨(by rw [hw]; exact (by (with_reducible repeat (first | refine blk_drewN ?_ _ | refine blk_drew ?_ | refine blk_alloc ?_ _)); refine blk_put (cs := #[.int .i64 x353000_9, .int .i64 t354, .bool t355, .int .i64 a0_3, .int .i64 0]) ?_ 4 _ rfl; (with_reducible repeat (first | refine blk_drewN ?_ _ | refine blk_drew ?_ | refine blk_alloc ?_ _)); refine blk_put (cs := #[.int .i64 x353000_9, .int .i64 t354, .bool t355, .int .i64 0, .int .i64 0]) ?_ 3 _ rfl; (with_reducible repeat (first | refine blk_drewN ?_ _ | refine blk_drew ?_ | refine blk_alloc ?_ _)); refine blk_put (cs := #[.int .i64 x353000_9, .int .i64 t354, .bool false, .int .i64 0, .int .i64 0]) ?_ 2 _ rfl; (with_reducible repeat (first | refine blk_drewN ?_ _ | refine blk_drew ?_ | refine blk_alloc ?_ _)); refine blk_put (cs := #[.int .i64 x353000_9, .int .i64 0, .bool false, .int .i64 0, .int .i64 0]) ?_ 1 _ rfl; (with_reducible repeat (first | refine blk_drewN ?_ _ | refine blk_drew ?_ | refine blk_alloc ?_ _)); refine blk_put (cs := #[.int .i64 0, .int .i64 0, .bool false, .int .i64 0, .int .i64 0]) ?_ 0 _ rfl; (with_reducible repeat (first | refine blk_drewN ?_ _ | refine blk_drew ?_ | refine blk_alloc ?_ _)); refine blk_far ?_ NB353_352.out _; (with_reducible repeat (first | refine blk_drewN ?_ _ | refine blk_drew ?_ | refine blk_alloc ?_ _)); refine blk_far ?_ NB353_352.out _; (with_reducible repeat (first | refine blk_drewN ?_ _ | refine blk_drew ?_ | refine blk_alloc ?_ _)); refine blk_far ?_ NB353_352.out _; exact uB <| BK353.out))⟩; have n2_ : Aside0 (Below w.heap.size w w39) := ⟨(by rw [hw]; exact bl)⟩; clear hw; clear BK352; clear BK353; clear HB; have BK352 := n0_; have BK353 := n1_; have HB := n2_; clear n0_ n1_ n2_))
      refine bodyPost_ret (results_cell_row rfl _ _ gb353 52 #[.int .i64 x353000_9, .int .i64 t354, .bool t355, .int .i64 a0_3, .int .i64 a1] (0, 0) _ rfl (uB BK353.out) Try.underlying52 rfl (by kernel_rfl)) rfl ?_
      exact ⟨re_, bl⟩
     ·
      rw [if_neg c33] at H
      have c33b0 : decide (a0_4 < a1) = false := decide_eq_false c33
      clear c33
      simp only [Option.some.injEq, Prod.mk.injEq] at H
      obtain ⟨rfl, rfl, rfl, rfl, rfl⟩ := H
      have hnb40 := NB352_353.out
      have hnc40 := NB353_352.out
      have hcz41_0 : wc.cell? ⟨gb352, 0, none⟩ = some (.int .i64 x353000_9) := (blk_cell BK352.out 0).trans rfl
      have hcz41_1 : wc.cell? ⟨gb352, 1, none⟩ = some (.int .i64 a0_1) := (blk_cell BK352.out 1).trans rfl
      have hcz41_2 : wc.cell? ⟨gb352, 2, none⟩ = some (.bool a0_2) := (blk_cell BK352.out 2).trans rfl
      have hcz41_3 : wc.cell? ⟨gb352, 3, none⟩ = some (.int .i64 a0_3) := (blk_cell BK352.out 3).trans rfl
      have hcz41_4 : wc.cell? ⟨gb352, 4, none⟩ = some (.int .i64 a0_4) := (blk_cell BK352.out 4).trans rfl
      have hfz41_0 := blk_frozen BK352.out 0
      have hfz41_1 := blk_frozen BK352.out 1
      have hfz41_2 := blk_frozen BK352.out 2
      have hfz41_3 := blk_frozen BK352.out 3
      have hfz41_4 := blk_frozen BK352.out 4
      go_wp2_with (first | (refine gL (some 24) rfl Try.func45 #[.agg #[.int .i64 a0_1, .bool a0_2], .agg #[.int .i64 a1, .bool false]] ?_; (with_reducible refine (r01_Add.calls kj9 a0_1 a0_2 a1 false t354 t355 _ A18.out).mono ?_); rintro e w42 ⟨rfl, hb⟩; refine ⟨_, rfl, ?_⟩; replace BK352 := cB BK352 hb; replace BK353 := cB BK353 hb; replace HB := Aside0.mk (below_step bl hb); (try clear hb); obtain ⟨hcz43_0, hcz43_1, hcz43_2, hcz43_3, hcz43_4, hfz43_0, hfz43_1, hfz43_2, hfz43_3, hfz43_4⟩ := z5 BK352; obtain ⟨hcz44_0, hcz44_1, hcz44_2, hcz44_3, hcz44_4, hfz44_0, hfz44_1, hfz44_2, hfz44_3, hfz44_4⟩ := z5 BK353) | ((with_reducible refine gate_store (t := 52) (p := 4) rfl ?_); refine store_event (t := 52) (p := 4) (v := ?vo_w45) (w1 := (((((((w42.setCell ⟨gb352, 1, none⟩ (.int .i64 t354)).setCell ⟨gb352, 2, none⟩ (.bool t355)).setCell ⟨gb353, 0, none⟩ (.int .i64 x353000_9)).setCell ⟨gb353, 1, none⟩ (.int .i64 t354)).setCell ⟨gb353, 2, none⟩ (.bool t355)).setCell ⟨gb353, 3, none⟩ (.int .i64 a0_3)).setCell ⟨gb353, 4, none⟩ (.int .i64 a0_4))) ?hg ?ho ?hn ?hr ?_; (case ho => rfl); (case hg => rfl); (case hn => rfl); (case hr => first | (go_simp; done) | (go_simp; rfl)); intro w45 hw; have n0_ : Aside0 (w45.heap[gb352]? = some (.cells #[.int .i64 x353000_9, .int .i64 t354, .bool t355, .int .i64 a0_3, .int .i64 a0_4] 52 (0, 0))) := ⟨(by rw [hw]; exact (by (with_reducible repeat (first | refine blk_drewN ?_ _ | refine blk_drew ?_ | refine blk_alloc ?_ _)); refine blk_far ?_ NB352_353.out _; (with_reducible repeat (first | refine blk_drewN ?_ _ | refine blk_drew ?_ | refine blk_alloc ?_ _)); refine blk_far ?_ NB352_353.out _; (with_reducible repeat (first | refine blk_drewN ?_ _ | refine blk_drew ?_ | refine blk_alloc ?_ _)); refine blk_far ?_ NB352_353.out _; (with_reducible repeat (first | refine blk_drewN ?_ _ | refine blk_drew ?_ | refine blk_alloc ?_ _)); refine blk_far ?_ NB352_353.out _; (with_reducible repeat (first | refine blk_drewN ?_ _ | refine blk_drew ?_ | refine blk_alloc ?_ _)); refine blk_far ?_ NB352_353.out _; (with_reducible repeat (first | refine blk_drewN ?_ _ | refine blk_drew ?_ | refine blk_alloc ?_ _)); refine blk_put (cs := #[.int .i64 x353000_9, .int .i64 t354, .bool a0_2, .int .i64 a0_3, .int .i64 a0_4]) ?_ 2 _ rfl; (with_reducible repeat (first | refine blk_drewN ?_ _ | refine blk_drew ?_ | refine blk_alloc ?_ _)); refine blk_put (cs := #[.int .i64 x353000_9, .int .i64 a0_1, .bool a0_2, .int .i64 a0_3, .int .i64 a0_4]) ?_ 1 _ rfl; exact uB <| BK352.out))⟩; have n1_ : Aside0 (w45.heap[gb353]? = some (.cells #[.int .i64 x353000_9, .int .i64 t354, .bool t355, .int .i64 a0_3, .int .i64 a0_4] 52 (0, 0))) := ⟨(by rw [hw]; exact (by (with_reducible repeat (first | refine blk_drewN ?_ _ | refine blk_drew ?_ | refine blk_alloc ?_ _)); refine blk_put (cs := #[.int .i64 x353000_9, .int .i64 t354, .bool t355, .int .i64 a0_3, .int .i64 0]) ?_ 4 _ rfl; (with_reducible repeat (first | refine blk_drewN ?_ _ | refine blk_drew ?_ | refine blk_alloc ?_ _)); refine blk_put (cs := #[.int .i64 x353000_9, .int .i64 t354, .bool t355, .int .i64 0, .int .i64 0]) ?_ 3 _ rfl; (with_reducible repeat (first | refine blk_drewN ?_ _ | refine blk_drew ?_ | refine blk_alloc ?_ _)); refine blk_put (cs := #[.int .i64 x353000_9, .int .i64 t354, .bool false, .int .i64 0, .int .i64 0]) ?_ 2 _ rfl; (with_reducible repeat (first | refine blk_drewN ?_ _ | refine blk_drew ?_ | refine blk_alloc ?_ _)); refine blk_put (cs := #[.int .i64 x353000_9, .int .i64 0, .bool false, .int .i64 0, .int .i64 0]) ?_ 1 _ rfl; (with_reducible repeat (first | refine blk_drewN ?_ _ | refine blk_drew ?_ | refine blk_alloc ?_ _)); refine blk_put (cs := #[.int .i64 0, .int .i64 0, .bool false, .int .i64 0, .int .i64 0]) ?_ 0 _ rfl; (with_reducible repeat (first | refine blk_drewN ?_ _ | refine blk_drew ?_ | refine blk_alloc ?_ _)); refine blk_far ?_ NB353_352.out _; (with_reducible repeat (first | refine blk_drewN ?_ _ | refine blk_drew ?_ | refine blk_alloc ?_ _)); refine blk_far ?_ NB353_352.out _; exact uB <| BK353.out))⟩; have n2_ : Aside0 (Below w.heap.size w w45) := ⟨(by rw [hw]; exact bl)⟩; clear hw; clear BK352; clear BK353; clear HB; have BK352 := n0_; have BK353 := n1_; have HB := n2_; clear n0_ n1_ n2_))
      refine bodyPost_ret (results_cell_row rfl _ _ gb353 52 #[.int .i64 x353000_9, .int .i64 t354, .bool t355, .int .i64 a0_3, .int .i64 a0_4] (0, 0) _ rfl (uB BK353.out) Try.underlying52 rfl (by kernel_rfl)) rfl ?_
      exact ⟨re_, bl⟩
end Go.Proofs.Ytofaindjbhmopaa.X
